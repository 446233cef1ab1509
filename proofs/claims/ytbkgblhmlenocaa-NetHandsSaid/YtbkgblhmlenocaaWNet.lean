/-
 WALKS of the package's functions, printed by this session's own program (auto.py).
-/
import Derived.Test.YtbkgblhmlenocaaProg
import Derived.Test.YtbkgblhmlenocaaEd
import Derived.Test.YtbkgblhmlenocaaRNet
import Derived.Test.YtbkgblhmlenocaaEls
import Derived.Test.YtbkgblhmlenocaaWCmp
namespace Go.Proofs.Ytbkgblhmlenocaa
set_option linter.unusedSimpArgs false
set_option linter.unusedVariables false
set_option linter.unusedSectionVars false
set_option maxRecDepth 8000
set_option maxHeartbeats 1000000
open Go Go.LW
theorem FNet.pl127 : placesB Try.prog 127 [(0, 1), (1, 1), (2, 1), (3, 1)] = true := by kernel_rfl
theorem FNet.z127 : zeroIs Try.prog 127 [(1, fun _ => .int .i64 0), (1, fun _ => .int .i64 0), (1, fun _ => .map none), (1, fun _ => .int .i64 0)] := zeroIs_agg (by kernel_rfl)
theorem FNet.fld60_0 : fieldB Try.prog 60 0 0 = true := by kernel_rfl
theorem FNet.sc3 : scalarT Try.prog 3 = true := by kernel_rfl
theorem FNet.call57 : callB Try.prog 57 = true := by kernel_rfl
theorem net_New_ok {B : Nat} {w0 : Base} {w : World} {L : List Rg} {nodes1 : Int} {most2 : Int} {r : Nat ⊕ (Int × Int × (List (Int × (Int × Int × Int × (Option Addr × Nat × Nat)))) × Nat × Nat)} (hR : net_New nodes1 most2 r) (HST : St B w0 (L) w) :
  Calls Try.prog 29 #[.int .i64 nodes1, .int .i64 most2] w fun e w' => match r with | .inl z => e = .returned (.tuple #[.pointer none, VN z]) ∧ St B w0 (L) w' | .inr z => ∃ b0 : Nat, ∃ mw0_2 : Nat, e = .returned (.tuple #[.pointer (some ⟨b0, 0, none⟩), VN z.2.2.2.2]) ∧ St B (w0.on [mapR kvI D60 [] mw0_2 z.2.2.1]) (⟨some b0, 0, 1, fun _ => .int .i64 z.1, true⟩ :: ⟨some b0, 1, 1, fun _ => .int .i64 z.2.1, true⟩ :: ⟨some b0, 2, 1, fun _ => .map (some mw0_2), true⟩ :: ⟨some b0, 3, 1, fun _ => VN z.2.2.2.1, true⟩ :: L) w' := by
 refine W.enter 25 Try.func29 rfl rfl rfl ?_
 unfold net_New at hR
 refine W.seq_k fun _ k3 => W.regionT [(0, true), (1, true)] (by kernel_rfl) ?_
 refine Plan.assign_ptr rfl rfl <| Plan.assign_int rfl rfl <| Plan.nil (k3 _ _ ?_); clear k3
 refine W.seq_k fun _ k4 => W.seq_k fun _ k14 => ?_
 refine W.regionT [(0, true), (1, true), (2, true), (3, true), (4, true), (5, true), (6, true), (7, true), (8, true), (9, true), (10, true), (11, true), (12, true), (13, true)] (by kernel_rfl) ?_
 refine Plan.move_int rfl rfl ?_
 by_cases hc15 : nodes1 < 1
 ·
  replace hR := ifT hR hc15
  refine Plan.cmpV (a := (nodes1 : Int)) (b := (1 : Int)) (p := nodes1 < 1) (v := true) rfl rfl rfl rfl icmp_lt (decide_eq_true hc15) <| Plan.move_bool rfl rfl <| Plan.passed rfl <| Plan.passed rfl <| Plan.pickTb rfl rfl rfl <| Plan.move_bool rfl rfl <| Plan.passed rfl <| Plan.passed rfl ?_
  refine Plan.pickTb rfl rfl rfl <| Plan.move_bool rfl rfl <| Plan.passed rfl <| Plan.passed rfl <| Plan.pickTb rfl rfl rfl <| Plan.nil (k14 _ _ ?_); clear k14
  refine W.condT rfl ?_
  refine W.seq_k fun _ k16 => W.regionT [(0, true), (1, true)] (by kernel_rfl) ?_
  refine Plan.assign_ptr rfl rfl <| Plan.assign_int rfl rfl <| Plan.nil (k16 _ _ ?_); clear k16
  refine W.ret (thenR_ret (finR_ret ?_))
  subst r
  refine RetOk.mk (.tmp_ptr rfl (.tmp_int rfl .nil)) ?_
  exact ⟨rfl, HST⟩
 ·
  replace hR := ifF hR hc15
  refine Plan.cmpV (a := (nodes1 : Int)) (b := (1 : Int)) (p := nodes1 < 1) (v := false) rfl rfl rfl rfl icmp_lt (decide_eq_false hc15) <| Plan.move_bool rfl rfl <| Plan.move_int rfl rfl ?_
  by_cases hc17 : 4 < nodes1
  ·
   replace hR := ifT hR hc17
   refine Plan.cmpV (a := (nodes1 : Int)) (b := (4 : Int)) (p := 4 < nodes1) (v := true) rfl rfl rfl rfl icmp_gt (decide_eq_true hc17) <| Plan.pickFb rfl rfl rfl <| Plan.move_bool rfl rfl <| Plan.passed rfl <| Plan.passed rfl <| Plan.pickTb rfl rfl rfl <| Plan.move_bool rfl rfl <| Plan.passed rfl ?_
   refine Plan.passed rfl <| Plan.pickTb rfl rfl rfl <| Plan.nil (k14 _ _ ?_); clear k14
   refine W.condT rfl ?_
   refine W.seq_k fun _ k18 => W.regionT [(0, true), (1, true)] (by kernel_rfl) ?_
   refine Plan.assign_ptr rfl rfl <| Plan.assign_int rfl rfl <| Plan.nil (k18 _ _ ?_); clear k18
   refine W.ret (thenR_ret (finR_ret ?_))
   subst r
   refine RetOk.mk (.tmp_ptr rfl (.tmp_int rfl .nil)) ?_
   exact ⟨rfl, HST⟩
  ·
   replace hR := ifF hR hc17
   refine Plan.cmpV (a := (nodes1 : Int)) (b := (4 : Int)) (p := 4 < nodes1) (v := false) rfl rfl rfl rfl icmp_gt (decide_eq_false hc17) <| Plan.pickFb rfl rfl rfl <| Plan.move_bool rfl rfl <| Plan.move_int rfl rfl ?_
   by_cases hc19 : most2 < 0
   ·
    replace hR := ifT hR hc19
    refine Plan.cmpV (a := (most2 : Int)) (b := (0 : Int)) (p := most2 < 0) (v := true) rfl rfl rfl rfl icmp_lt (decide_eq_true hc19) <| Plan.pickFb rfl rfl rfl <| Plan.move_bool rfl rfl <| Plan.passed rfl <| Plan.passed rfl <| Plan.pickTb rfl rfl rfl <| Plan.nil (k14 _ _ ?_); clear k14
    refine W.condT rfl ?_
    refine W.seq_k fun _ k20 => W.regionT [(0, true), (1, true)] (by kernel_rfl) ?_
    refine Plan.assign_ptr rfl rfl <| Plan.assign_int rfl rfl <| Plan.nil (k20 _ _ ?_); clear k20
    refine W.ret (thenR_ret (finR_ret ?_))
    subst r
    refine RetOk.mk (.tmp_ptr rfl (.tmp_int rfl .nil)) ?_
    exact ⟨rfl, HST⟩
   ·
    replace hR := ifF hR hc19
    refine Plan.cmpV (a := (most2 : Int)) (b := (0 : Int)) (p := most2 < 0) (v := false) rfl rfl rfl rfl icmp_lt (decide_eq_false hc19) <| Plan.pickFb rfl rfl rfl <| Plan.move_bool rfl rfl <| Plan.move_int rfl rfl <| Plan.cmpP (a := (most2 : Int)) (b := (4096 : Int)) (p := 4096 < most2) rfl rfl rfl rfl icmp_gt <| Plan.pickFb rfl rfl rfl <| Plan.nil (k14 _ _ ?_); clear k14
    by_cases hc21 : 4096 < most2
    ·
     replace hR := ifT hR hc21
     refine W.condT (congrArg Value.bool (decide_eq_true hc21)) ?_
     refine W.seq_k fun _ k22 => W.regionT [(0, true), (1, true)] (by kernel_rfl) ?_
     refine Plan.assign_ptr rfl rfl <| Plan.assign_int rfl rfl <| Plan.nil (k22 _ _ ?_); clear k22
     refine W.ret (thenR_ret (finR_ret ?_))
     subst r
     refine RetOk.mk (.tmp_ptr rfl (.tmp_int rfl .nil)) ?_
     exact ⟨rfl, HST⟩
    ·
     replace hR := ifF hR hc21
     refine W.condF (congrArg Value.bool (decide_eq_false hc21)) ?_
     refine W.skip ?_
     refine k4 _ _ ?_; clear k4
     refine W.seq_k fun _ k23 => W.regionT [(0, true), (1, true), (2, false), (3, true), (4, false), (5, true), (6, true)] (by kernel_rfl) ?_
     refine Plan.move_int rfl rfl <| Plan.move_int rfl rfl ?_
     refine Plan.makeMap (w0 := w0) (N := []) kvI D60 [] HST rfl (by exact (EffO.keep PIn.nil)) fun m24 w24 h24 => ?_
     refine Plan.buildP (ps := [(1, fun _ => .int .i64 nodes1), (1, fun _ => .int .i64 most2), (1, fun _ => .map (some m24)), (1, fun _ => VN 0)]) FNet.pl127 (by decide) FNet.z127 rfl rfl (.one [] [(1, fun _ => VN 0), (1, fun _ => .map none), (1, fun _ => VN 0)] (fun _ => VN 0) rfl rfl (.one [(1, fun _ => .int .i64 nodes1)] [(1, fun _ => .map none), (1, fun _ => VN 0)] (fun _ => VN 0) rfl rfl (.one [(1, fun _ => .int .i64 nodes1), (1, fun _ => .int .i64 most2)] [(1, fun _ => VN 0)] (fun _ => .map none) rfl rfl .nil))) ?_
     refine Plan.boxA h24 rfl rfl PIn.nil fun b25 w25 hb25 h25 => ?_
     simp only [rngs, Nat.zero_add, Nat.reduceAdd, zca, zna] at h25
     refine Plan.assign_ptr rfl rfl <| Plan.assign_int rfl rfl <| Plan.nil (k23 _ _ ?_); clear k23
     refine W.ret (finR_ret ?_)
     subst r
     refine RetOk.mk (.tmp_ptr rfl (.tmp_int rfl .nil)) ?_
     exact ⟨b25, m24, rfl, h25⟩
theorem net_Net_Flights_1_ok {B : Nat} {w0 : Base} {w : World} {L : List Rg} {aNumber1 : Int} {aFrom2 : Int} {aTo3 : Int} {aBytes4 : Option Addr × Nat × Nat} {bNumber5 : Int} {bFrom6 : Int} {bTo7 : Int} {bBytes8 : Option Addr × Nat × Nat} {r : Int} (hR : net_Net_Flights_1 aNumber1 aFrom2 aTo3 aBytes4 bNumber5 bFrom6 bTo7 bBytes8 r) (HST : St B w0 (L) w) :
  Calls Try.prog 68 #[AG [(1, fun _ => .int .i64 aNumber1), (1, fun _ => .int .i64 aFrom2), (1, fun _ => .int .i64 aTo3), (1, fun _ => .slice aBytes4.1 aBytes4.2.1 aBytes4.2.2)], AG [(1, fun _ => .int .i64 bNumber5), (1, fun _ => .int .i64 bFrom6), (1, fun _ => .int .i64 bTo7), (1, fun _ => .slice bBytes8.1 bBytes8.2.1 bBytes8.2.2)]] w fun e w' => e = .returned (.int .i64 r) ∧ St B w0 (L) w' := by
 refine W.enter 10 Try.func68 rfl rfl rfl ?_
 unfold net_Net_Flights_1 at hR
 refine W.seq_k fun _ k9 => W.regionT [(0, false), (1, false), (2, true)] (by kernel_rfl) ?_
 refine Plan.boxA HST rfl rfl PIn.nil fun b10 w10 hb10 h10 => ?_
 simp only [rngs, Nat.zero_add, Nat.reduceAdd, zca, zna] at h10
 refine Plan.boxA h10 rfl rfl PIn.nil fun b11 w11 hb11 h11 => ?_
 simp only [rngs, Nat.zero_add, Nat.reduceAdd, zca, zna] at h11
 refine Plan.assign_int rfl rfl <| Plan.nil (k9 _ _ ?_); clear k9
 refine W.seq_k fun _ k12 => W.regionT [(0, true), (1, true), (2, true), (3, true), (4, false), (5, true)] (by kernel_rfl) ?_
 refine Plan.fieldAddr0 FNet.fld60_0 rfl rfl <| Plan.load0 h11 4 rfl rfl rfl (by omega) FNet.sc3 <| Plan.fieldAddr0 FNet.fld60_0 rfl rfl <| Plan.load0 h11 0 rfl rfl rfl (by omega) FNet.sc3 ?_
 obtain ⟨x_14, hr13, hR⟩ := hR
 refine Plan.call (vs := [.int .i64 aNumber1, .int .i64 bNumber5]) rfl FNet.call57 rfl (cmp_Compare_int_ok  hr13 h11) ?_
 rintro _ w15 ⟨rfl, h15⟩
 refine ⟨_, rfl, .inr ⟨rfl, ?_⟩⟩
 refine Plan.assign_int rfl rfl <| Plan.nil (k12 _ _ ?_); clear k12
 refine W.ret (finR_ret ?_)
 have h16 := St.pickT (C := [_, _, _, _, _, _, _, _]) h15 [] (by decide)
 simp only [pick, zfc, zfn, zgz, zgs, zca, zna] at h16
 subst r
 refine RetOk.mk (.tmp_int rfl .nil) ?_
 exact ⟨rfl, h16⟩
end Go.Proofs.Ytbkgblhmlenocaa
