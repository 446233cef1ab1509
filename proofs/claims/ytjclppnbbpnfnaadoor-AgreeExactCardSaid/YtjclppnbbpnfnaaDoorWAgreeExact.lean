/-
 WALKS of the package's functions, printed by this session's own program (auto.py).
-/
import Derived.Test.YtjclppnbbpnfnaaDoorProg
import Derived.Test.YtjclppnbbpnfnaaDoorEb
import Derived.Test.YtjclppnbbpnfnaaDoorRAgreeExact
import Derived.Test.YtjclppnbbpnfnaaDoorEls
import Derived.Test.YtjclppnbbpnfnaaDoorWLaw17
namespace Go.Proofs.YtjclppnbbpnfnaaDoor
set_option linter.unusedSimpArgs false
set_option linter.unusedVariables false
set_option linter.unusedSectionVars false
set_option maxRecDepth 8000
set_option maxHeartbeats 1000000
open Go Go.LW
theorem FAgreeExact.z25 : zeroIs Tryd.prog 25 [(32, fun _ => VU .u8 0#8), (32, fun _ => VU .u8 0#8)] := zeroIs_agg (by kernel_rfl)
theorem FAgreeExact.z23 : zeroIs Tryd.prog 23 [(32, fun _ => VU .u8 0#8)] := zeroIs_agg (by kernel_rfl)
theorem FAgreeExact.arr23 : arrB Tryd.prog 23 32 1 = true := by kernel_rfl
theorem FAgreeExact.pl25 : placesB Tryd.prog 25 [(0, 32), (32, 32)] = true := by kernel_rfl
theorem FAgreeExact.sz25 : szT Tryd.prog 25 64 = true := by kernel_rfl
theorem FAgreeExact.agg25 : aggT Tryd.prog 25 64 = true := by kernel_rfl
theorem FAgreeExact.pl28 : placesB Tryd.prog 28 [(0, 32), (32, 1), (33, 32)] = true := by kernel_rfl
theorem FAgreeExact.z28 : zeroIs Tryd.prog 28 [(32, fun _ => VU .u8 0#8), (1, fun _ => VU .u32 0#32), (32, fun _ => VU .u8 0#8)] := zeroIs_agg (by kernel_rfl)
theorem FAgreeExact.isl44 : ∃ el, Tryd.prog.underlying 44 = some (.slice el) := ⟨47, by kernel_rfl⟩
theorem FAgreeExact.sl44 : slB Tryd.prog 44 259 = true := by kernel_rfl
theorem FAgreeExact.agg47 : aggT Tryd.prog 47 259 = true := by kernel_rfl
theorem FAgreeExact.call10 : callB Tryd.prog 10 = true := by kernel_rfl
theorem FAgreeExact.pl47 : placesB Tryd.prog 47 [(0, 1), (1, 64), (65, 64), (129, 65), (194, 65)] = true := by kernel_rfl
theorem FAgreeExact.z47 : zeroIs Tryd.prog 47 [(1, fun _ => .int .i64 0), (32, fun _ => VU .u8 0#8), (32, fun _ => VU .u8 0#8), (32, fun _ => VU .u8 0#8), (32, fun _ => VU .u8 0#8), (32, fun _ => VU .u8 0#8), (1, fun _ => VU .u32 0#32), (32, fun _ => VU .u8 0#8), (32, fun _ => VU .u8 0#8), (32, fun _ => VU .u8 0#8), (1, fun _ => VU .u32 0#32)] := zeroIs_agg (by kernel_rfl)
theorem lethelaw17_AgreeExact_ok {B : Nat} {w0 w : World} {L : List Rg} {iG0 : Nat} (hG0 : L[iG0]? = some ⟨some 0, 0, 5, fun q => VU .u64 (twice5 q), false⟩) {iG1 : Nat} (hG1 : L[iG1]? = some ⟨some 1, 0, 8, fun q => VU .u32 (H256 q), false⟩) {iG3 : Nat} (hG3 : L[iG3]? = some ⟨some 3, 0, 64, fun q => VU .u32 (K256 q), false⟩) {iG4 : Nat} (hG4 : L[iG4]? = some ⟨some 4, 0, 8, fun q => VU .u64 (H64 q), false⟩) {iG5 : Nat} (hG5 : L[iG5]? = some ⟨some 5, 0, 64, fun q => VU .u64 (K64 q), false⟩) {script1 : List (Int × (Nat → BitVec 8) × (Nat → BitVec 8) × (Nat → BitVec 8) × (Nat → BitVec 8) × (Nat → BitVec 8) × (BitVec 32) × (Nat → BitVec 8) × (Nat → BitVec 8) × (Nat → BitVec 8) × (BitVec 32))} {ascript1 : Option Addr} {nscript1 cscript1 iscript1 : Nat} (hscript1 : LV D47 L iscript1 ascript1 nscript1 cscript1 script1) {r : Bool} (hR : lethelaw17_AgreeExact script1 r) (HST : St B w0 (L) w) :
  Calls Tryd.prog 4 #[.slice ascript1 nscript1 cscript1] w fun e w' => e = .returned (.bool r) ∧ St B w0 (L) w' := by
 refine W.enter 33 Tryd.func4 rfl rfl rfl ?_
 unfold lethelaw17_AgreeExact at hR
 have escript1 := hscript1.hl; subst escript1
 refine W.seq_k fun _ k2 => W.regionT [(0, true)] (by kernel_rfl) ?_
 refine Plan.assign_bool rfl rfl <| Plan.nil (k2 _ _ ?_); clear k2
 refine W.seq_k fun _ k3 => W.seq_k fun _ k4 => ?_
 refine W.regionT [(0, true)] (by kernel_rfl) ?_
 refine Plan.assign_int rfl rfl <| Plan.nil (k4 _ _ ?_); clear k4
 obtain ⟨x41, hI41, hR041⟩ := hR
 refine W.cutN (fun e w => x41 = some () ∧ EnvHas e [] ∧ St B w0 (L) w) ?_ ?_
 ·
  refine W.block ?_
  refine W.iter hI41 (fun (s41 : Nat) e w => EnvHas e [(0, .slice ascript1 script1.length cscript1), (3, VN s41)] ∧ St B w0 (L) w) ⟨(zer (zer zen)), HST⟩ ?_
  rintro i_40 o41 hR hx41 ev42 wl42 ⟨he42, h42⟩
  obtain ⟨ev42, rfl⟩ := he42.open
  unfold lethelaw17_AgreeExact_l0 at hR
  refine W.seq_k fun _ k43 => W.seq_k fun _ k47 => ?_
  refine W.regionT [(0, true), (1, true), (2, true), (3, true), (4, true), (5, true), (6, true), (7, true)] (by kernel_rfl) ?_
  refine Plan.move_int rfl rfl <| Plan.move_slice rfl rfl <| Plan.len FAgreeExact.isl44 rfl rfl ?_
  by_cases hc48 : i_40 < script1.length
  ·
   replace hR := ifT hR hc48
   refine Plan.cmpV (a := (((i_40 : Nat) : Int) : Int)) (b := (((script1.length : Nat) : Int) : Int)) (p := i_40 < script1.length) (v := true) rfl rfl rfl rfl icmp_ltN (decide_eq_true hc48) <| Plan.move_bool rfl rfl <| Plan.move_int rfl rfl <| Plan.cmpP (a := (((i_40 : Nat) : Int) : Int)) (b := (4 : Int)) (p := i_40 < 4) rfl rfl rfl rfl icmp_ltN <| Plan.pickTb rfl rfl rfl <| Plan.nil (k47 _ _ ?_); clear k47
   by_cases hc49 : i_40 < 4
   ·
    replace hR := ifT hR hc49
    refine W.condT (congrArg Value.bool (decide_eq_true hc49)) ?_
    refine W.skip ?_
    refine k43 _ _ ?_; clear k43
    refine W.seq_k fun _ k50 => ?_
    refine W.block ?_
    refine W.seq_k fun _ k51 => W.regionT [(0, true), (1, true), (2, true), (3, true), (4, false), (5, true)] (by kernel_rfl) ?_
    refine Plan.move_slice rfl rfl <| Plan.move_int rfl rfl ?_
    obtain ⟨hc52, hR⟩ := hR
    refine Plan.idxLVS (D := D47) (j := i_40) h42 hscript1 FAgreeExact.sl44 rfl rfl rfl hc52 ?_
    refine Plan.loadLV (D := D47) (X := script1) (j := i_40) (sz := 259) h42 ((0 : Int), (fun _ => 0#8), (fun _ => 0#8), (fun _ => 0#8), (fun _ => 0#8), (fun _ => 0#8), 0#32, (fun _ => 0#8), (fun _ => 0#8), (fun _ => 0#8), 0#32) hscript1 rfl rfl hc52 rfl FAgreeExact.agg47 fun b53 r53 hs53 hr53 => ?_
    obtain ⟨x_55, hr54, hR⟩ := hR
    refine Plan.call (vs := [AG [(1, fun _ => .int .i64 ((script1.getD i_40 ((0 : Int), (fun _ => 0#8), (fun _ => 0#8), (fun _ => 0#8), (fun _ => 0#8), (fun _ => 0#8), 0#32, (fun _ => 0#8), (fun _ => 0#8), (fun _ => 0#8), 0#32)).1)), (32, fun q => VU .u8 (((script1.getD i_40 ((0 : Int), (fun _ => 0#8), (fun _ => 0#8), (fun _ => 0#8), (fun _ => 0#8), (fun _ => 0#8), 0#32, (fun _ => 0#8), (fun _ => 0#8), (fun _ => 0#8), 0#32)).2.1) q)), (32, fun q => VU .u8 (((script1.getD i_40 ((0 : Int), (fun _ => 0#8), (fun _ => 0#8), (fun _ => 0#8), (fun _ => 0#8), (fun _ => 0#8), 0#32, (fun _ => 0#8), (fun _ => 0#8), (fun _ => 0#8), 0#32)).2.2.1) q)), (32, fun q => VU .u8 (((script1.getD i_40 ((0 : Int), (fun _ => 0#8), (fun _ => 0#8), (fun _ => 0#8), (fun _ => 0#8), (fun _ => 0#8), 0#32, (fun _ => 0#8), (fun _ => 0#8), (fun _ => 0#8), 0#32)).2.2.2.1) q)), (32, fun q => VU .u8 (((script1.getD i_40 ((0 : Int), (fun _ => 0#8), (fun _ => 0#8), (fun _ => 0#8), (fun _ => 0#8), (fun _ => 0#8), 0#32, (fun _ => 0#8), (fun _ => 0#8), (fun _ => 0#8), 0#32)).2.2.2.2.1) q)), (32, fun q => VU .u8 (((script1.getD i_40 ((0 : Int), (fun _ => 0#8), (fun _ => 0#8), (fun _ => 0#8), (fun _ => 0#8), (fun _ => 0#8), 0#32, (fun _ => 0#8), (fun _ => 0#8), (fun _ => 0#8), 0#32)).2.2.2.2.2.1) q)), (1, fun _ => VU .u32 ((script1.getD i_40 ((0 : Int), (fun _ => 0#8), (fun _ => 0#8), (fun _ => 0#8), (fun _ => 0#8), (fun _ => 0#8), 0#32, (fun _ => 0#8), (fun _ => 0#8), (fun _ => 0#8), 0#32)).2.2.2.2.2.2.1)), (32, fun q => VU .u8 (((script1.getD i_40 ((0 : Int), (fun _ => 0#8), (fun _ => 0#8), (fun _ => 0#8), (fun _ => 0#8), (fun _ => 0#8), 0#32, (fun _ => 0#8), (fun _ => 0#8), (fun _ => 0#8), 0#32)).2.2.2.2.2.2.2.1) q)), (32, fun q => VU .u8 (((script1.getD i_40 ((0 : Int), (fun _ => 0#8), (fun _ => 0#8), (fun _ => 0#8), (fun _ => 0#8), (fun _ => 0#8), 0#32, (fun _ => 0#8), (fun _ => 0#8), (fun _ => 0#8), 0#32)).2.2.2.2.2.2.2.2.1) q)), (32, fun q => VU .u8 (((script1.getD i_40 ((0 : Int), (fun _ => 0#8), (fun _ => 0#8), (fun _ => 0#8), (fun _ => 0#8), (fun _ => 0#8), 0#32, (fun _ => 0#8), (fun _ => 0#8), (fun _ => 0#8), 0#32)).2.2.2.2.2.2.2.2.2.1) q)), (1, fun _ => VU .u32 ((script1.getD i_40 ((0 : Int), (fun _ => 0#8), (fun _ => 0#8), (fun _ => 0#8), (fun _ => 0#8), (fun _ => 0#8), 0#32, (fun _ => 0#8), (fun _ => 0#8), (fun _ => 0#8), 0#32)).2.2.2.2.2.2.2.2.2.2))]]) rfl FAgreeExact.call10 rfl (lethelaw17_plays_ok (iG0 := iG0 + 0) hG0 (iG1 := iG1 + 0) hG1 (iG3 := iG3 + 0) hG3 (iG4 := iG4 + 0) hG4 (iG5 := iG5 + 0) hG5 hr54 h42) ?_
    rintro _ w56 ⟨rfl, h56⟩
    refine ⟨_, rfl, .inr ⟨rfl, ?_⟩⟩
    refine Plan.assign_bool rfl rfl <| Plan.nil (k51 _ _ ?_); clear k51
    refine W.seq_k fun _ k57 => W.regionT [(0, true), (1, true)] (by kernel_rfl) ?_
    refine Plan.move_bool rfl rfl <| Plan.not rfl rfl <| Plan.nil (k57 _ _ ?_); clear k57
    by_cases hc58 : x_55 = true
    ·
     replace hR := ifT hR hc58
     refine W.condF (congrArg Value.bool (congrArg Bool.not hc58)) ?_
     refine W.skip ?_
     refine blockR_norm ?_
     refine k50 _ _ ?_; clear k50
     refine W.regionT [(0, true), (1, true), (2, true)] (by kernel_rfl) ?_
     refine Plan.move_int rfl rfl <| Plan.addN (a := i_40) (b := 1) rfl rfl rfl (by omega) <| Plan.assign_int rfl rfl <| Plan.nil ?_
     exact iterR_norm ⟨_, hR, (zer (zer zen)), h56⟩
    ·
     replace hR := ifF hR hc58
     refine W.condT (congrArg Value.bool (congrArg Bool.not (Bool.eq_false_iff.2 hc58))) ?_
     refine W.seq_k fun _ k59 => W.regionT [(0, true)] (by kernel_rfl) ?_
     refine Plan.assign_bool rfl rfl <| Plan.nil (k59 _ _ ?_); clear k59
     refine W.ret (blockR_ret (thenR_ret (iterR_ret (blockR_ret (thenR_ret (thenR_ret (finR_ret ?_)))))))
     replace hR := hR.2
     subst r
     refine RetOk.mk (.tmp_bool rfl .nil) ?_
     exact ⟨rfl, h56⟩
   ·
    replace hR := ifF hR hc49
    refine W.condF (congrArg Value.bool (decide_eq_false hc49)) ?_
    refine W.exit (thenR_exit (iterR_exit (blockR_here ?_)))
    exact ⟨(hx41 _ hR).symm, zen, h42⟩
  ·
   replace hR := ifF hR hc48
   refine Plan.cmpV (a := (((i_40 : Nat) : Int) : Int)) (b := (((script1.length : Nat) : Int) : Int)) (p := i_40 < script1.length) (v := false) rfl rfl rfl rfl icmp_ltN (decide_eq_false hc48) <| Plan.move_bool rfl rfl <| Plan.passed rfl <| Plan.passed rfl <| Plan.pickFb rfl rfl rfl <| Plan.nil (k47 _ _ ?_); clear k47
   refine W.condF rfl ?_
   refine W.exit (thenR_exit (iterR_exit (blockR_here ?_)))
   exact ⟨(hx41 _ hR).symm, zen, h42⟩
 ·
  rintro ev60 wl60 ⟨hy60, he60, h60⟩
  obtain ⟨ev60, rfl⟩ := he60.open
  replace hR := hR041  hy60
  refine k3 _ _ ?_; clear k3
  refine W.seq_k fun _ k61 => W.regionT [(0, true), (1, true), (2, true), (3, false), (4, false)] (by kernel_rfl) ?_
  refine Plan.buildArr (ps := [(32, fun q => VU .u8 ((upd (fun _ => 0#8) 0 (8#8)) q))]) FAgreeExact.arr23 FAgreeExact.z23 rfl rfl (by kernel_rfl) ?_
  refine Plan.buildArr (ps := [(32, fun q => VU .u8 ((upd (fun _ => 0#8) 0 (9#8)) q))]) FAgreeExact.arr23 FAgreeExact.z23 rfl rfl (by kernel_rfl) ?_
  refine Plan.buildP (ps := [(32, fun q => VU .u8 ((upd (fun _ => 0#8) 0 (8#8)) q)), (32, fun q => VU .u8 ((upd (fun _ => 0#8) 0 (9#8)) q))]) FAgreeExact.pl25 (by decide) FAgreeExact.z25 rfl rfl (.agg [] [(32, fun q => VU .u8 ((fun _ => 0#8) q))] [(32, fun q => VU .u8 ((fun _ => 0#8) q))] [(32, fun q => VU .u8 ((upd (fun _ => 0#8) 0 (8#8)) q))] rfl rfl (.agg [(32, fun q => VU .u8 ((upd (fun _ => 0#8) 0 (8#8)) q))] [(32, fun q => VU .u8 ((fun _ => 0#8) q))] [] [(32, fun q => VU .u8 ((upd (fun _ => 0#8) 0 (9#8)) q))] rfl rfl .nil)) ?_
  refine Plan.alloc h60 rfl FAgreeExact.z25 PIn.nil fun b62 w62 hb62 h62 => ?_
  simp only [rngs, Nat.zero_add, Nat.reduceAdd, zca, zna] at h62
  refine Plan.storeP (ps := [(32, fun q => VU .u8 ((upd (fun _ => 0#8) 0 (8#8)) q)), (32, fun q => VU .u8 ((upd (fun _ => 0#8) 0 (9#8)) q))]) h62 rfl rfl rfl (.cons 0 rfl (.cons 1 rfl .nil)) ⟨fun _ _ => rfl, fun _ _ => rfl, trivial⟩ FAgreeExact.sz25 (EffO.keep PIn.nil) fun w63 h63 => ?_
  simp only [zca, zna, zsz, zss] at h63
  refine Plan.nil (k61 _ _ ?_); clear k61
  refine W.seq_k fun _ k64 => W.regionT [(0, true), (1, true), (2, true), (3, true), (4, true), (5, true), (6, false), (7, true)] (by kernel_rfl) ?_
  refine Plan.loadA h63 rfl rfl (.cons 0 rfl (.cons 1 rfl .nil)) FAgreeExact.agg25 <| Plan.loadA h63 rfl rfl (.cons 0 rfl (.cons 1 rfl .nil)) FAgreeExact.agg25 ?_
  refine Plan.buildArr (ps := [(32, fun q => VU .u8 ((upd (fun _ => 0#8) 0 (9#8)) q))]) FAgreeExact.arr23 FAgreeExact.z23 rfl rfl (by kernel_rfl) ?_
  refine Plan.buildArr (ps := [(32, fun q => VU .u8 ((upd (fun _ => 0#8) 0 (9#8)) q))]) FAgreeExact.arr23 FAgreeExact.z23 rfl rfl (by kernel_rfl) ?_
  refine Plan.buildP (ps := [(32, fun q => VU .u8 ((upd (fun _ => 0#8) 0 (9#8)) q)), (1, fun _ => VU .u32 (7#32)), (32, fun q => VU .u8 ((upd (fun _ => 0#8) 0 (9#8)) q))]) FAgreeExact.pl28 (by decide) FAgreeExact.z28 rfl rfl (.agg [] [(32, fun q => VU .u8 ((fun _ => 0#8) q))] [(1, fun _ => VU .u32 (0#32)), (32, fun q => VU .u8 ((fun _ => 0#8) q))] [(32, fun q => VU .u8 ((upd (fun _ => 0#8) 0 (9#8)) q))] rfl rfl (.one [(32, fun q => VU .u8 ((upd (fun _ => 0#8) 0 (9#8)) q))] [(32, fun q => VU .u8 ((fun _ => 0#8) q))] (fun _ => VU .u32 (0#32)) rfl rfl (.agg [(32, fun q => VU .u8 ((upd (fun _ => 0#8) 0 (9#8)) q)), (1, fun _ => VU .u32 (7#32))] [(32, fun q => VU .u8 ((fun _ => 0#8) q))] [] [(32, fun q => VU .u8 ((upd (fun _ => 0#8) 0 (9#8)) q))] rfl rfl .nil))) ?_
  refine Plan.buildP (ps := [(1, fun _ => VN 1), (32, fun q => VU .u8 ((upd (fun _ => 0#8) 0 (8#8)) q)), (32, fun q => VU .u8 ((upd (fun _ => 0#8) 0 (9#8)) q)), (32, fun q => VU .u8 ((upd (fun _ => 0#8) 0 (8#8)) q)), (32, fun q => VU .u8 ((upd (fun _ => 0#8) 0 (9#8)) q)), (32, fun q => VU .u8 ((upd (fun _ => 0#8) 0 (9#8)) q)), (1, fun _ => VU .u32 (7#32)), (32, fun q => VU .u8 ((upd (fun _ => 0#8) 0 (9#8)) q)), (32, fun q => VU .u8 ((fun _ => 0#8) q)), (32, fun q => VU .u8 ((fun _ => 0#8) q)), (1, fun _ => VU .u32 (0#32))]) FAgreeExact.pl47 (by decide) FAgreeExact.z47 rfl rfl (.one [] [(32, fun q => VU .u8 ((fun _ => 0#8) q)), (32, fun q => VU .u8 ((fun _ => 0#8) q)), (32, fun q => VU .u8 ((fun _ => 0#8) q)), (32, fun q => VU .u8 ((fun _ => 0#8) q)), (32, fun q => VU .u8 ((fun _ => 0#8) q)), (1, fun _ => VU .u32 (0#32)), (32, fun q => VU .u8 ((fun _ => 0#8) q)), (32, fun q => VU .u8 ((fun _ => 0#8) q)), (32, fun q => VU .u8 ((fun _ => 0#8) q)), (1, fun _ => VU .u32 (0#32))] (fun _ => VN 0) rfl rfl (.agg [(1, fun _ => VN 1)] [(32, fun q => VU .u8 ((fun _ => 0#8) q)), (32, fun q => VU .u8 ((fun _ => 0#8) q))] [(32, fun q => VU .u8 ((fun _ => 0#8) q)), (32, fun q => VU .u8 ((fun _ => 0#8) q)), (32, fun q => VU .u8 ((fun _ => 0#8) q)), (1, fun _ => VU .u32 (0#32)), (32, fun q => VU .u8 ((fun _ => 0#8) q)), (32, fun q => VU .u8 ((fun _ => 0#8) q)), (32, fun q => VU .u8 ((fun _ => 0#8) q)), (1, fun _ => VU .u32 (0#32))] [(32, fun q => VU .u8 ((upd (fun _ => 0#8) 0 (8#8)) q)), (32, fun q => VU .u8 ((upd (fun _ => 0#8) 0 (9#8)) q))] rfl rfl (.agg [(1, fun _ => VN 1), (32, fun q => VU .u8 ((upd (fun _ => 0#8) 0 (8#8)) q)), (32, fun q => VU .u8 ((upd (fun _ => 0#8) 0 (9#8)) q))] [(32, fun q => VU .u8 ((fun _ => 0#8) q)), (32, fun q => VU .u8 ((fun _ => 0#8) q))] [(32, fun q => VU .u8 ((fun _ => 0#8) q)), (1, fun _ => VU .u32 (0#32)), (32, fun q => VU .u8 ((fun _ => 0#8) q)), (32, fun q => VU .u8 ((fun _ => 0#8) q)), (32, fun q => VU .u8 ((fun _ => 0#8) q)), (1, fun _ => VU .u32 (0#32))] [(32, fun q => VU .u8 ((upd (fun _ => 0#8) 0 (8#8)) q)), (32, fun q => VU .u8 ((upd (fun _ => 0#8) 0 (9#8)) q))] rfl rfl (.agg [(1, fun _ => VN 1), (32, fun q => VU .u8 ((upd (fun _ => 0#8) 0 (8#8)) q)), (32, fun q => VU .u8 ((upd (fun _ => 0#8) 0 (9#8)) q)), (32, fun q => VU .u8 ((upd (fun _ => 0#8) 0 (8#8)) q)), (32, fun q => VU .u8 ((upd (fun _ => 0#8) 0 (9#8)) q))] [(32, fun q => VU .u8 ((fun _ => 0#8) q)), (1, fun _ => VU .u32 (0#32)), (32, fun q => VU .u8 ((fun _ => 0#8) q))] [(32, fun q => VU .u8 ((fun _ => 0#8) q)), (32, fun q => VU .u8 ((fun _ => 0#8) q)), (1, fun _ => VU .u32 (0#32))] [(32, fun q => VU .u8 ((upd (fun _ => 0#8) 0 (9#8)) q)), (1, fun _ => VU .u32 (7#32)), (32, fun q => VU .u8 ((upd (fun _ => 0#8) 0 (9#8)) q))] rfl rfl .nil)))) ?_
  obtain ⟨x_66, hr65, hR⟩ := hR
  refine Plan.call (vs := [AG [(1, fun _ => VN 1), (32, fun q => VU .u8 ((upd (fun _ => 0#8) 0 (8#8)) q)), (32, fun q => VU .u8 ((upd (fun _ => 0#8) 0 (9#8)) q)), (32, fun q => VU .u8 ((upd (fun _ => 0#8) 0 (8#8)) q)), (32, fun q => VU .u8 ((upd (fun _ => 0#8) 0 (9#8)) q)), (32, fun q => VU .u8 ((upd (fun _ => 0#8) 0 (9#8)) q)), (1, fun _ => VU .u32 (7#32)), (32, fun q => VU .u8 ((upd (fun _ => 0#8) 0 (9#8)) q)), (32, fun q => VU .u8 ((fun _ => 0#8) q)), (32, fun q => VU .u8 ((fun _ => 0#8) q)), (1, fun _ => VU .u32 (0#32))]]) rfl FAgreeExact.call10 rfl (lethelaw17_plays_ok (iG0 := iG0 + 2) hG0 (iG1 := iG1 + 2) hG1 (iG3 := iG3 + 2) hG3 (iG4 := iG4 + 2) hG4 (iG5 := iG5 + 2) hG5 hr65 h63) ?_
  rintro _ w67 ⟨rfl, h67⟩
  refine ⟨_, rfl, .inl ⟨PIn.keep (PIn.parts (.cons 0 rfl (.cons 1 rfl .nil)) (PIn.parts (.cons 0 rfl (.cons 1 rfl .nil)) PIn.nil)) h67, ?_⟩⟩
  refine Plan.assign_bool rfl rfl <| Plan.nil (k64 _ _ ?_); clear k64
  refine W.ret (finR_ret ?_)
  have h68 := St.pickT (C := [_, _]) h67 [] (by decide)
  simp only [pick, zfc, zfn, zgz, zgs, zca, zna] at h68
  subst r
  refine RetOk.mk (.tmp_bool rfl .nil) ?_
  exact ⟨rfl, h68⟩
end Go.Proofs.YtjclppnbbpnfnaaDoor
