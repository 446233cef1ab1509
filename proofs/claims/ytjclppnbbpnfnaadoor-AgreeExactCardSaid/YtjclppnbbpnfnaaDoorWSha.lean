/-
 WALKS of the package's functions, printed by this session's own program (auto.py).
-/
import Derived.Test.YtjclppnbbpnfnaaDoorProg
import Derived.Test.YtjclppnbbpnfnaaDoorEb
import Derived.Test.YtjclppnbbpnfnaaDoorRSha
import Derived.Test.YtjclppnbbpnfnaaDoorEls
import Derived.Test.YtjclppnbbpnfnaaDoorWBits
namespace Go.Proofs.YtjclppnbbpnfnaaDoor
set_option linter.unusedSimpArgs false
set_option linter.unusedVariables false
set_option linter.unusedSectionVars false
set_option maxRecDepth 8000
set_option maxHeartbeats 1000000
open Go Go.LW
theorem FSha.mixed : Tryd.prog.follows .mixedOrders = true := by kernel_rfl
theorem FSha.sc5 : scalarT Tryd.prog 5 = true := by kernel_rfl
theorem FSha.sz5 : szT Tryd.prog 5 1 = true := by kernel_rfl
theorem FSha.u67 : Tryd.prog.underlying 67 = some (.int .u64) := by kernel_rfl
theorem FSha.some5 : (Tryd.prog.underlying 5).isSome = true := by kernel_rfl
theorem FSha.some26 : (Tryd.prog.underlying 26).isSome = true := by kernel_rfl
theorem FSha.u5 : Tryd.prog.underlying 5 = some (.int .u8) := by kernel_rfl
theorem FSha.some67 : (Tryd.prog.underlying 67).isSome = true := by kernel_rfl
theorem FSha.sc26 : scalarT Tryd.prog 26 = true := by kernel_rfl
theorem FSha.zv5 : (Tryd.prog.info? 5).bind (·.zero) = some (VU .u8 0#8) := by kernel_rfl
theorem FSha.slu40 : Tryd.prog.underlying 40 = some (.slice 5) := by kernel_rfl
theorem FSha.isl40 : ∃ el, Tryd.prog.underlying 40 = some (.slice el) := ⟨5, by kernel_rfl⟩
theorem FSha.some3 : (Tryd.prog.underlying 3).isSome = true := by kernel_rfl
theorem FSha.sl40 : slB Tryd.prog 40 1 = true := by kernel_rfl
theorem FSha.z57 : zeroIs Tryd.prog 57 [(32, fun _ => VU .u8 0#8)] := zeroIs_agg (by kernel_rfl)
theorem FSha.agg118 : aggT Tryd.prog 118 8 = true := by kernel_rfl
theorem FSha.pl120 : placesB Tryd.prog 120 [(0, 8), (8, 64), (72, 1)] = true := by kernel_rfl
theorem FSha.z120 : zeroIs Tryd.prog 120 [(8, fun _ => VU .u32 0#32), (64, fun _ => VU .u8 0#8), (1, fun _ => .int .i64 0)] := zeroIs_agg (by kernel_rfl)
theorem FSha.call46 : callB Tryd.prog 46 = true := by kernel_rfl
theorem FSha.isl102 : ∃ el, Tryd.prog.underlying 102 = some (.slice el) := ⟨40, by kernel_rfl⟩
theorem FSha.sl102 : slB Tryd.prog 102 1 = true := by kernel_rfl
theorem FSha.sc40 : scalarT Tryd.prog 40 = true := by kernel_rfl
theorem FSha.fld120_1 : fieldB Tryd.prog 120 1 8 = true := by kernel_rfl
theorem FSha.fld120_2 : fieldB Tryd.prog 120 2 72 = true := by kernel_rfl
theorem FSha.sc3 : scalarT Tryd.prog 3 = true := by kernel_rfl
theorem FSha.arr31 : arrB Tryd.prog 31 64 1 = true := by kernel_rfl
theorem FSha.sz3 : szT Tryd.prog 3 1 = true := by kernel_rfl
theorem FSha.fld120_0 : fieldB Tryd.prog 120 0 0 = true := by kernel_rfl
theorem FSha.agg31 : aggT Tryd.prog 31 64 = true := by kernel_rfl
theorem FSha.z118 : zeroIs Tryd.prog 118 [(8, fun _ => VU .u32 0#32)] := zeroIs_agg (by kernel_rfl)
theorem FSha.z126 : zeroIs Tryd.prog 126 [(64, fun _ => VU .u32 0#32)] := zeroIs_agg (by kernel_rfl)
theorem FSha.u26 : Tryd.prog.underlying 26 = some (.int .u32) := by kernel_rfl
theorem FSha.arr126 : arrB Tryd.prog 126 64 1 = true := by kernel_rfl
theorem FSha.sz26 : szT Tryd.prog 26 1 = true := by kernel_rfl
theorem FSha.call74 : callB Tryd.prog 74 = true := by kernel_rfl
theorem FSha.call63 : callB Tryd.prog 63 = true := by kernel_rfl
theorem FSha.arr118 : arrB Tryd.prog 118 8 1 = true := by kernel_rfl
theorem FSha.isarr118 : Tryd.prog.underlying 118 = some (.array 8 26) := by kernel_rfl
theorem FSha.sz118 : szT Tryd.prog 118 8 = true := by kernel_rfl
theorem FSha.call57 : callB Tryd.prog 57 = true := by kernel_rfl
theorem FSha.call47 : callB Tryd.prog 47 = true := by kernel_rfl
theorem FSha.agg120 : aggT Tryd.prog 120 73 = true := by kernel_rfl
theorem FSha.sz120 : szT Tryd.prog 120 73 = true := by kernel_rfl
theorem FSha.call58 : callB Tryd.prog 58 = true := by kernel_rfl
theorem FSha.arr57 : arrB Tryd.prog 57 32 1 = true := by kernel_rfl
theorem FSha.agg57 : aggT Tryd.prog 57 32 = true := by kernel_rfl
theorem FSha.sz57 : szT Tryd.prog 57 32 = true := by kernel_rfl
theorem FSha.call49 : callB Tryd.prog 49 = true := by kernel_rfl
theorem sha_New_ok {B : Nat} {w0 w : World} {L : List Rg} {iG1 : Nat} (hG1 : L[iG1]? = some ⟨some 1, 0, 8, fun q => VU .u32 (H256 q), false⟩)  {r : ((Nat → BitVec 32) × (Nat → BitVec 8) × Nat)} (hR : sha_New r) (HST : St B w0 (L) w) :
  Calls Tryd.prog 46 #[] w fun e w' => ∃ b0 : Nat, e = .returned (.pointer (some ⟨b0, 0, none⟩)) ∧ St B w0 (⟨some b0, 0, 8, fun q => VU .u32 (r.1 q), true⟩ :: ⟨some b0, 8, 64, fun q => VU .u8 (r.2.1 q), true⟩ :: ⟨some b0, 72, 1, fun _ => VN r.2.2, true⟩ :: L) w' := by
 refine W.enter 4 Tryd.func46 rfl rfl rfl ?_
 unfold sha_New at hR
 refine W.seq_k fun _ k1 => W.regionT [(0, true)] (by kernel_rfl) ?_
 refine Plan.assign_ptr rfl rfl <| Plan.nil (k1 _ _ ?_); clear k1
 refine W.seq_k fun _ k2 => W.regionT [(0, true), (1, true), (2, false), (3, true)] (by kernel_rfl) ?_
 refine Plan.loadA1 HST (iG1 + 0) rfl rfl hG1 FSha.agg118 ?_
 refine Plan.buildP (ps := [(8, fun q => VU .u32 (H256 q)), (64, fun q => VU .u8 ((fun _ => 0#8) q)), (1, fun _ => VN 0)]) FSha.pl120 (by decide) FSha.z120 rfl rfl (.agg [] [(8, fun q => VU .u32 ((fun _ => 0#32) q))] [(64, fun q => VU .u8 ((fun _ => 0#8) q)), (1, fun _ => VN 0)] [(8, fun q => VU .u32 (H256 q))] rfl rfl .nil) ?_
 refine Plan.boxA HST rfl rfl (PIn.cons (iG1 + 0) hG1 PIn.nil) fun b3 w3 hb3 h3 => ?_
 simp only [rngs, Nat.zero_add, Nat.reduceAdd, zca, zna] at h3
 refine Plan.assign_ptr rfl rfl <| Plan.nil (k2 _ _ ?_); clear k2
 refine W.ret (finR_ret ?_)
 subst r
 refine RetOk.mk (.tmp_ptr rfl .nil) ?_
 exact ⟨b3, rfl, h3⟩
theorem sha_right_ok {B : Nat} {w0 w : World} {L : List Rg} {n_1 : Int} {x_2 : BitVec 32} {r : (BitVec 32)} (hR : sha_right n_1 x_2 r) (HST : St B w0 (L) w) :
  Calls Tryd.prog 63 #[.int .i64 n_1, VU .u32 x_2] w fun e w' => e = .returned (VU .u32 r) ∧ St B w0 (L) w' := by
 refine W.enter 9 Tryd.func63 rfl rfl rfl ?_
 unfold sha_right at hR
 refine W.seq_k fun _ k3 => W.regionT [(0, true)] (by kernel_rfl) ?_
 refine Plan.assign_int rfl rfl <| Plan.nil (k3 _ _ ?_); clear k3
 refine W.seq_k fun _ k4 => W.regionT [(0, true), (1, true), (2, true), (3, false), (4, true)] (by kernel_rfl) ?_
 refine Plan.move_int rfl rfl <| Plan.move_int rfl rfl ?_
 obtain ⟨hc5, hR⟩ := hR
 refine Plan.negI rfl rfl (by omega) ?_
 obtain ⟨x_7, hr6, hR⟩ := hR
 refine Plan.call (vs := [VU .u32 x_2, .int .i64 (-n_1)]) rfl FSha.call74 rfl (bits_RotateLeft32_ok  hr6 HST) ?_
 rintro _ w8 ⟨rfl, h8⟩
 refine ⟨_, rfl, .inl ⟨PIn.keep PIn.nil h8, ?_⟩⟩
 refine Plan.assign_int rfl rfl <| Plan.nil (k4 _ _ ?_); clear k4
 refine W.ret (finR_ret ?_)
 subst r
 refine RetOk.mk (.tmp_int rfl .nil) ?_
 exact ⟨rfl, h8⟩
theorem sha_Compress_ok {B : Nat} {w0 w : World} {L : List Rg} {iG3 : Nat} (hG3 : L[iG3]? = some ⟨some 3, 0, 64, fun q => VU .u32 (K256 q), false⟩) {state1 : Nat → BitVec 32} {block2 : Nat → BitVec 8} {r : (Nat → BitVec 32)} (hR : sha_Compress state1 block2 r) (HST : St B w0 (L) w) :
  Calls Tryd.prog 57 #[AG [(8, fun q => VU .u32 (state1 q))], AG [(64, fun q => VU .u8 (block2 q))]] w fun e w' => e = .returned (AG [(8, fun q => VU .u32 (r q))]) ∧ St B w0 (L) w' := by
 refine W.enter 199 Tryd.func57 rfl rfl rfl ?_
 unfold sha_Compress at hR
 refine W.seq_k fun _ k3 => W.regionT [(0, false), (1, false), (2, false)] (by kernel_rfl) ?_
 refine Plan.boxA HST rfl rfl PIn.nil fun b4 w4 hb4 h4 => ?_
 simp only [rngs, Nat.zero_add, Nat.reduceAdd, zca, zna] at h4
 refine Plan.boxA h4 rfl rfl PIn.nil fun b5 w5 hb5 h5 => ?_
 simp only [rngs, Nat.zero_add, Nat.reduceAdd, zca, zna] at h5
 refine Plan.alloc h5 rfl FSha.z118 PIn.nil fun b6 w6 hb6 h6 => ?_
 simp only [rngs, Nat.zero_add, Nat.reduceAdd, zca, zna] at h6
 refine Plan.nil (k3 _ _ ?_); clear k3
 refine W.seq_k fun _ k7 => W.regionT [(0, false)] (by kernel_rfl) ?_
 refine Plan.alloc h6 rfl FSha.z126 PIn.nil fun b8 w8 hb8 h8 => ?_
 simp only [rngs, Nat.zero_add, Nat.reduceAdd, zca, zna] at h8
 refine Plan.nil (k7 _ _ ?_); clear k7
 refine W.seq_k fun _ k9 => W.seq_k fun _ k10 => ?_
 refine W.regionT [(0, true)] (by kernel_rfl) ?_
 refine Plan.move_int rfl rfl <| Plan.nil (k10 _ _ ?_); clear k10
 obtain ⟨m29, hI30, hR030⟩ := hR
 refine W.cutN (fun e w => ∃ y_m29 : Nat → BitVec 32, m29 = y_m29 ∧ EnvHas e [(2, .pointer (some ⟨b4, 0, none⟩)), (4, .pointer (some ⟨b6, 0, none⟩)), (5, .pointer (some ⟨b8, 0, none⟩))] ∧ St B w0 (⟨some b8, 0, 64, fun q => VU .u32 (y_m29 q), true⟩ :: ⟨some b6, 0, 8, fun q => VU .u32 ((fun _ => 0#32) q), true⟩ :: ⟨some b4, 0, 8, fun q => VU .u32 (state1 q), true⟩ :: L) w) ?_ ?_
 ·
  refine W.block ?_
  refine W.iter hI30 (fun (s30 : (Nat × (Nat → BitVec 32))) e w => EnvHas e [(2, .pointer (some ⟨b4, 0, none⟩)), (3, .pointer (some ⟨b5, 0, none⟩)), (4, .pointer (some ⟨b6, 0, none⟩)), (5, .pointer (some ⟨b8, 0, none⟩)), (23, VN s30.1)] ∧ St B w0 (⟨some b8, 0, 64, fun q => VU .u32 (s30.2 q), true⟩ :: ⟨some b6, 0, 8, fun q => VU .u32 ((fun _ => 0#32) q), true⟩ :: ⟨some b5, 0, 64, fun q => VU .u8 (block2 q), true⟩ :: ⟨some b4, 0, 8, fun q => VU .u32 (state1 q), true⟩ :: L) w) ⟨(zer (zer (zer (zer (zer zen))))), h8⟩ ?_
  rintro ⟨t27, m28⟩ o30 hR hx30 ev31 wl31 ⟨he31, h31⟩
  obtain ⟨ev31, rfl⟩ := he31.open
  unfold sha_Compress_l0 at hR
  refine W.seq_k fun _ k32 => W.regionT [(0, true)] (by kernel_rfl) ?_
  refine Plan.cmpP (a := (((t27 : Nat) : Int) : Int)) (b := (16 : Int)) (p := t27 < 16) rfl rfl rfl rfl icmp_ltN <| Plan.nil (k32 _ _ ?_); clear k32
  refine W.seq_k fun _ k33 => ?_
  by_cases hc34 : t27 < 16
  ·
   replace hR := ifT hR hc34
   refine W.condT (congrArg Value.bool (decide_eq_true hc34)) ?_
   refine W.skip ?_
   refine k33 _ _ ?_; clear k33
   refine W.seq_k fun _ k35 => ?_
   refine W.block ?_
   refine W.seq_k fun _ k36 => W.regionT [(0, true), (1, true)] (by kernel_rfl) ?_
   refine Plan.move_int rfl rfl <| Plan.assign_int rfl rfl <| Plan.nil (k36 _ _ ?_); clear k36
   refine W.regionD FSha.mixed [(0, true), (1, true), (2, true), (3, true), (4, true), (5, true), (6, true), (7, true), (8, true), (9, true), (10, true), (11, true), (12, true), (13, true), (14, true), (15, true), (16, true), (17, true), (18, true), (19, true), (20, true), (21, true), (22, true), (23, true), (24, true), (25, true), (26, true), (27, true), (28, true), (29, true), (30, true), (31, false)] (by kernel_rfl) ?_
   have h37 := h31.drew
   refine Plan.move_int rfl rfl <| Plan.move_int rfl rfl <| Plan.mulN (a := 4) (b := t27) rfl rfl rfl (by omega) <| Plan.idxArr1 (j := (4 * t27)) FSha.arr31 rfl rfl rfl (by omega) <| Plan.load1 (j := (4 * t27)) h37 2 rfl rfl rfl (by omega) FSha.sc5 <| Plan.convUU .u32 (X := (block2 (4 * t27))) FSha.u26 FSha.some5 rfl rfl <| Plan.shlU .u32 (X := ((block2 (4 * t27)).setWidth 32)) (c := 24) rfl rfl rfl <| Plan.move_int rfl rfl ?_
   refine Plan.mulN (a := 4) (b := t27) rfl rfl rfl (by omega) <| Plan.addN (a := (4 * t27)) (b := 1) rfl rfl rfl (by omega) <| Plan.idxArr1 (j := ((4 * t27) + 1)) FSha.arr31 rfl rfl rfl (by omega) <| Plan.load1 (j := ((4 * t27) + 1)) h37 2 rfl rfl rfl (by omega) FSha.sc5 <| Plan.convUU .u32 (X := (block2 ((4 * t27) + 1))) FSha.u26 FSha.some5 rfl rfl <| Plan.shlU .u32 (X := ((block2 ((4 * t27) + 1)).setWidth 32)) (c := 16) rfl rfl rfl <| Plan.orU .u32 (X := (((block2 (4 * t27)).setWidth 32) <<< 24)) (Y := (((block2 ((4 * t27) + 1)).setWidth 32) <<< 16)) rfl rfl rfl <| Plan.move_int rfl rfl ?_
   refine Plan.mulN (a := 4) (b := t27) rfl rfl rfl (by omega) <| Plan.addN (a := (4 * t27)) (b := 2) rfl rfl rfl (by omega) <| Plan.idxArr1 (j := ((4 * t27) + 2)) FSha.arr31 rfl rfl rfl (by omega) <| Plan.load1 (j := ((4 * t27) + 2)) h37 2 rfl rfl rfl (by omega) FSha.sc5 <| Plan.convUU .u32 (X := (block2 ((4 * t27) + 2))) FSha.u26 FSha.some5 rfl rfl <| Plan.shlU .u32 (X := ((block2 ((4 * t27) + 2)).setWidth 32)) (c := 8) rfl rfl rfl <| Plan.orU .u32 (X := ((((block2 (4 * t27)).setWidth 32) <<< 24) ||| (((block2 ((4 * t27) + 1)).setWidth 32) <<< 16))) (Y := (((block2 ((4 * t27) + 2)).setWidth 32) <<< 8)) rfl rfl rfl <| Plan.move_int rfl rfl ?_
   refine Plan.mulN (a := 4) (b := t27) rfl rfl rfl (by omega) <| Plan.addN (a := (4 * t27)) (b := 3) rfl rfl rfl (by omega) <| Plan.idxArr1 (j := ((4 * t27) + 3)) FSha.arr31 rfl rfl rfl (by omega) <| Plan.load1 (j := ((4 * t27) + 3)) h37 2 rfl rfl rfl (by omega) FSha.sc5 <| Plan.convUU .u32 (X := (block2 ((4 * t27) + 3))) FSha.u26 FSha.some5 rfl rfl <| Plan.orU .u32 (X := (((((block2 (4 * t27)).setWidth 32) <<< 24) ||| (((block2 ((4 * t27) + 1)).setWidth 32) <<< 16)) ||| (((block2 ((4 * t27) + 2)).setWidth 32) <<< 8))) (Y := ((block2 ((4 * t27) + 3)).setWidth 32)) rfl rfl rfl <| Plan.idxArr1 (j := t27) FSha.arr126 rfl rfl rfl (by omega) ?_
   refine Plan.storeU (j := t27) (X := ((((((block2 (4 * t27)).setWidth 32) <<< 24) ||| (((block2 ((4 * t27) + 1)).setWidth 32) <<< 16)) ||| (((block2 ((4 * t27) + 2)).setWidth 32) <<< 8)) ||| ((block2 ((4 * t27) + 3)).setWidth 32))) h37 0 rfl rfl rfl rfl (by omega) FSha.sz26 rfl fun w38 h38 => ?_
   simp only [zca, zna, zsz, zss] at h38
   refine Plan.nil ?_
   refine blockR_norm ?_
   refine k35 _ _ ?_; clear k35
   refine W.regionT [(0, true), (1, true)] (by kernel_rfl) ?_
   refine Plan.addN (a := t27) (b := 1) rfl rfl rfl (by omega) <| Plan.move_int rfl rfl <| Plan.nil ?_
   exact iterR_norm ⟨_, hR, (zer (zer (zer (zer (zer zen))))), h38⟩
  ·
   replace hR := ifF hR hc34
   refine W.condF (congrArg Value.bool (decide_eq_false hc34)) ?_
   refine W.exit (thenR_exit (iterR_exit (blockR_here ?_)))
   have h39 := St.pickT (C := [_, _, _, _]) h31 [0, 1, 3] (by decide)
   simp only [pick, zfc, zfn, zgz, zgs, zca, zna] at h39
   exact ⟨m28, (hx30 _ hR).symm, (zer (zer (zer zen))), h39⟩
 ·
  rintro ev40 wl40 ⟨y_m29, hy40, he40, h40⟩
  obtain ⟨ev40, rfl⟩ := he40.open
  subst hy40
  replace hR := hR030
  refine k9 _ _ ?_; clear k9
  refine W.seq_k fun _ k41 => W.seq_k fun _ k42 => ?_
  refine W.regionT [(0, true)] (by kernel_rfl) ?_
  refine Plan.assign_int rfl rfl <| Plan.nil (k42 _ _ ?_); clear k42
  obtain ⟨m91, hI92, hR092⟩ := hR
  refine W.cutN (fun e w => ∃ y_m91 : Nat → BitVec 32, m91 = y_m91 ∧ EnvHas e [(2, .pointer (some ⟨b4, 0, none⟩)), (4, .pointer (some ⟨b6, 0, none⟩)), (5, .pointer (some ⟨b8, 0, none⟩))] ∧ St B w0 (⟨some b8, 0, 64, fun q => VU .u32 (y_m91 q), true⟩ :: ⟨some b6, 0, 8, fun q => VU .u32 ((fun _ => 0#32) q), true⟩ :: ⟨some b4, 0, 8, fun q => VU .u32 (state1 q), true⟩ :: L) w) ?_ ?_
  ·
   refine W.block ?_
   refine W.iter hI92 (fun (s92 : (Nat × (Nat → BitVec 32))) e w => EnvHas e [(2, .pointer (some ⟨b4, 0, none⟩)), (4, .pointer (some ⟨b6, 0, none⟩)), (5, .pointer (some ⟨b8, 0, none⟩)), (7, VN s92.1)] ∧ St B w0 (⟨some b8, 0, 64, fun q => VU .u32 (s92.2 q), true⟩ :: ⟨some b6, 0, 8, fun q => VU .u32 ((fun _ => 0#32) q), true⟩ :: ⟨some b4, 0, 8, fun q => VU .u32 (state1 q), true⟩ :: L) w) ⟨(zer (zer (zer (zer zen)))), h40⟩ ?_
   rintro ⟨t89, m90⟩ o92 hR hx92 ev93 wl93 ⟨he93, h93⟩
   obtain ⟨ev93, rfl⟩ := he93.open
   unfold sha_Compress_l1 at hR
   refine W.seq_k fun _ k94 => W.seq_k fun _ k95 => ?_
   refine W.regionT [(0, true), (1, true)] (by kernel_rfl) ?_
   refine Plan.move_int rfl rfl <| Plan.cmpP (a := (((t89 : Nat) : Int) : Int)) (b := (64 : Int)) (p := t89 < 64) rfl rfl rfl rfl icmp_ltN <| Plan.nil (k95 _ _ ?_); clear k95
   by_cases hc96 : t89 < 64
   ·
    replace hR := ifT hR hc96
    refine W.condT (congrArg Value.bool (decide_eq_true hc96)) ?_
    refine W.skip ?_
    refine k94 _ _ ?_; clear k94
    refine W.seq_k fun _ k97 => ?_
    refine W.block ?_
    refine W.seq_k fun _ k98 => ?_
    refine W.regionD FSha.mixed [(0, true), (1, true), (2, true), (3, true), (4, true), (5, true), (6, true), (7, true), (8, true), (9, true)] (by kernel_rfl) ?_
    have h99 := h93.drew
    refine Plan.move_int rfl rfl <| Plan.subI (a := ((t89 : Nat) : Int)) (b := 15) rfl rfl rfl (by omega) ?_
    obtain ⟨hc100, hR⟩ := hR
    refine Plan.idxArr1 (j := (((t89 : Nat) : Int) - 15).toNat) FSha.arr126 rfl rfl (congrArg (Value.int .i64) (Int.toNat_of_nonneg hc100.1).symm) (by omega) <| Plan.load1 (j := (((t89 : Nat) : Int) - 15).toNat) h99 0 rfl rfl rfl (by omega) FSha.sc26 <| Plan.move_int rfl rfl <| Plan.subI (a := ((t89 : Nat) : Int)) (b := 2) rfl rfl rfl (by omega) ?_
    obtain ⟨hc101, hR⟩ := hR
    refine Plan.idxArr1 (j := (((t89 : Nat) : Int) - 2).toNat) FSha.arr126 rfl rfl (congrArg (Value.int .i64) (Int.toNat_of_nonneg hc101.1).symm) (by omega) <| Plan.load1 (j := (((t89 : Nat) : Int) - 2).toNat) h99 0 rfl rfl rfl (by omega) FSha.sc26 <| Plan.assign_int rfl rfl <| Plan.assign_int rfl rfl <| Plan.nil (k98 _ _ ?_); clear k98
    refine W.regionD FSha.mixed [(0, true), (1, true), (3, true), (6, true), (7, true), (9, true), (10, true), (11, true), (12, true), (14, true), (16, true), (19, true), (20, true), (23, true), (24, true), (25, true), (26, true), (2, false), (4, false), (5, true), (8, true), (13, true), (15, false), (17, false), (18, true), (21, true), (22, true), (27, true), (28, true), (29, false)] (by kernel_rfl) ?_
    have h102 := h99.drew
    refine Plan.move_int rfl rfl <| Plan.move_int rfl rfl <| Plan.move_int rfl rfl <| Plan.move_int rfl rfl <| Plan.shrU .u32 (X := (m90 ((((t89 : Nat) : Int) - 2).toNat))) (c := 10) rfl rfl rfl <| Plan.move_int rfl rfl <| Plan.subI (a := ((t89 : Nat) : Int)) (b := 7) rfl rfl rfl (by omega) ?_
    obtain ⟨hc103, hR⟩ := hR
    refine Plan.idxArr1 (j := (((t89 : Nat) : Int) - 7).toNat) FSha.arr126 rfl rfl (congrArg (Value.int .i64) (Int.toNat_of_nonneg hc103.1).symm) (by omega) <| Plan.load1 (j := (((t89 : Nat) : Int) - 7).toNat) h102 0 rfl rfl rfl (by omega) FSha.sc26 <| Plan.move_int rfl rfl <| Plan.move_int rfl rfl <| Plan.move_int rfl rfl <| Plan.shrU .u32 (X := (m90 ((((t89 : Nat) : Int) - 15).toNat))) (c := 3) rfl rfl rfl <| Plan.move_int rfl rfl <| Plan.subI (a := ((t89 : Nat) : Int)) (b := 16) rfl rfl rfl (by omega) ?_
    obtain ⟨hc104, hR⟩ := hR
    refine Plan.idxArr1 (j := (((t89 : Nat) : Int) - 16).toNat) FSha.arr126 rfl rfl (congrArg (Value.int .i64) (Int.toNat_of_nonneg hc104.1).symm) (by omega) <| Plan.load1 (j := (((t89 : Nat) : Int) - 16).toNat) h102 0 rfl rfl rfl (by omega) FSha.sc26 ?_
    obtain ⟨x_106, hr105, hR⟩ := hR
    refine Plan.call (vs := [VN 17, VU .u32 (m90 ((((t89 : Nat) : Int) - 2).toNat))]) rfl FSha.call63 rfl (sha_right_ok  hr105 h102) ?_
    rintro _ w107 ⟨rfl, h107⟩
    refine ⟨_, rfl, .inl ⟨PIn.keep (PIn.cons 0 rfl (PIn.cons 0 rfl PIn.nil)) h107, ?_⟩⟩
    obtain ⟨x_109, hr108, hR⟩ := hR
    refine Plan.call (vs := [VN 19, VU .u32 (m90 ((((t89 : Nat) : Int) - 2).toNat))]) rfl FSha.call63 rfl (sha_right_ok  hr108 h107) ?_
    rintro _ w110 ⟨rfl, h110⟩
    refine ⟨_, rfl, .inl ⟨PIn.keep (PIn.cons 0 rfl (PIn.cons 0 rfl PIn.nil)) h110, ?_⟩⟩
    refine Plan.xorU .u32 (X := x_106) (Y := x_109) rfl rfl rfl <| Plan.xorU .u32 (X := (x_106 ^^^ x_109)) (Y := ((m90 ((((t89 : Nat) : Int) - 2).toNat)) >>> 10)) rfl rfl rfl <| Plan.addU .u32 (X := ((x_106 ^^^ x_109) ^^^ ((m90 ((((t89 : Nat) : Int) - 2).toNat)) >>> 10))) (Y := (m90 ((((t89 : Nat) : Int) - 7).toNat))) rfl rfl rfl ?_
    obtain ⟨x_112, hr111, hR⟩ := hR
    refine Plan.call (vs := [VN 7, VU .u32 (m90 ((((t89 : Nat) : Int) - 15).toNat))]) rfl FSha.call63 rfl (sha_right_ok  hr111 h110) ?_
    rintro _ w113 ⟨rfl, h113⟩
    refine ⟨_, rfl, .inl ⟨PIn.keep (PIn.cons 0 rfl (PIn.cons 0 rfl PIn.nil)) h113, ?_⟩⟩
    obtain ⟨x_115, hr114, hR⟩ := hR
    refine Plan.call (vs := [VN 18, VU .u32 (m90 ((((t89 : Nat) : Int) - 15).toNat))]) rfl FSha.call63 rfl (sha_right_ok  hr114 h113) ?_
    rintro _ w116 ⟨rfl, h116⟩
    refine ⟨_, rfl, .inl ⟨PIn.keep (PIn.cons 0 rfl (PIn.cons 0 rfl PIn.nil)) h116, ?_⟩⟩
    refine Plan.xorU .u32 (X := x_112) (Y := x_115) rfl rfl rfl <| Plan.xorU .u32 (X := (x_112 ^^^ x_115)) (Y := ((m90 ((((t89 : Nat) : Int) - 15).toNat)) >>> 3)) rfl rfl rfl <| Plan.addU .u32 (X := (((x_106 ^^^ x_109) ^^^ ((m90 ((((t89 : Nat) : Int) - 2).toNat)) >>> 10)) + (m90 ((((t89 : Nat) : Int) - 7).toNat)))) (Y := ((x_112 ^^^ x_115) ^^^ ((m90 ((((t89 : Nat) : Int) - 15).toNat)) >>> 3))) rfl rfl rfl <| Plan.addU .u32 (X := ((((x_106 ^^^ x_109) ^^^ ((m90 ((((t89 : Nat) : Int) - 2).toNat)) >>> 10)) + (m90 ((((t89 : Nat) : Int) - 7).toNat))) + ((x_112 ^^^ x_115) ^^^ ((m90 ((((t89 : Nat) : Int) - 15).toNat)) >>> 3)))) (Y := (m90 ((((t89 : Nat) : Int) - 16).toNat))) rfl rfl rfl <| Plan.idxArr1 (j := t89) FSha.arr126 rfl rfl rfl (by omega) ?_
    refine Plan.storeU (j := t89) (X := (((((x_106 ^^^ x_109) ^^^ ((m90 ((((t89 : Nat) : Int) - 2).toNat)) >>> 10)) + (m90 ((((t89 : Nat) : Int) - 7).toNat))) + ((x_112 ^^^ x_115) ^^^ ((m90 ((((t89 : Nat) : Int) - 15).toNat)) >>> 3))) + (m90 ((((t89 : Nat) : Int) - 16).toNat)))) h116 0 rfl rfl rfl rfl (by omega) FSha.sz26 rfl fun w117 h117 => ?_
    simp only [zca, zna, zsz, zss] at h117
    refine Plan.nil ?_
    refine blockR_norm ?_
    refine k97 _ _ ?_; clear k97
    refine W.regionT [(0, true), (1, true), (2, true)] (by kernel_rfl) ?_
    refine Plan.move_int rfl rfl <| Plan.addN (a := t89) (b := 1) rfl rfl rfl (by omega) <| Plan.assign_int rfl rfl <| Plan.nil ?_
    exact iterR_norm ⟨_, hR, (zer (zer (zer (zer zen)))), h117⟩
   ·
    replace hR := ifF hR hc96
    refine W.condF (congrArg Value.bool (decide_eq_false hc96)) ?_
    refine W.exit (thenR_exit (iterR_exit (blockR_here ?_)))
    exact ⟨m90, (hx92 _ hR).symm, (zer (zer (zer zen))), h93⟩
  ·
   rintro ev118 wl118 ⟨y_m91, hy118, he118, h118⟩
   obtain ⟨ev118, rfl⟩ := he118.open
   subst hy118
   replace hR := hR092
   refine k41 _ _ ?_; clear k41
   refine W.seq_k fun _ k119 => ?_
   refine W.regionD FSha.mixed [(0, true), (1, true), (2, true), (3, true), (4, true), (5, true), (6, true), (7, true), (8, true), (9, true), (10, true), (11, true), (12, true), (13, true), (14, true), (15, true), (16, true), (17, true), (18, true), (19, true), (20, true), (21, true), (22, true), (23, true)] (by kernel_rfl) ?_
   have h120 := h118.drew
   refine Plan.idxArr1 (j := 0) FSha.arr118 rfl rfl rfl (by omega) <| Plan.load1 (j := 0) h120 2 rfl rfl rfl (by omega) FSha.sc26 <| Plan.idxArr1 (j := 1) FSha.arr118 rfl rfl rfl (by omega) <| Plan.load1 (j := 1) h120 2 rfl rfl rfl (by omega) FSha.sc26 <| Plan.idxArr1 (j := 2) FSha.arr118 rfl rfl rfl (by omega) <| Plan.load1 (j := 2) h120 2 rfl rfl rfl (by omega) FSha.sc26 <| Plan.idxArr1 (j := 3) FSha.arr118 rfl rfl rfl (by omega) <| Plan.load1 (j := 3) h120 2 rfl rfl rfl (by omega) FSha.sc26 ?_
   refine Plan.idxArr1 (j := 4) FSha.arr118 rfl rfl rfl (by omega) <| Plan.load1 (j := 4) h120 2 rfl rfl rfl (by omega) FSha.sc26 <| Plan.idxArr1 (j := 5) FSha.arr118 rfl rfl rfl (by omega) <| Plan.load1 (j := 5) h120 2 rfl rfl rfl (by omega) FSha.sc26 <| Plan.idxArr1 (j := 6) FSha.arr118 rfl rfl rfl (by omega) <| Plan.load1 (j := 6) h120 2 rfl rfl rfl (by omega) FSha.sc26 <| Plan.idxArr1 (j := 7) FSha.arr118 rfl rfl rfl (by omega) <| Plan.load1 (j := 7) h120 2 rfl rfl rfl (by omega) FSha.sc26 ?_
   refine Plan.assign_int rfl rfl <| Plan.assign_int rfl rfl <| Plan.assign_int rfl rfl <| Plan.assign_int rfl rfl <| Plan.assign_int rfl rfl <| Plan.assign_int rfl rfl <| Plan.assign_int rfl rfl <| Plan.assign_int rfl rfl ?_
   refine Plan.nil (k119 _ _ ?_); clear k119
   refine W.seq_k fun _ k121 => W.seq_k fun _ k122 => ?_
   refine W.regionT [(0, true)] (by kernel_rfl) ?_
   refine Plan.move_int rfl rfl <| Plan.nil (k122 _ _ ?_); clear k122
   obtain ⟨a193, b194, c195, d_196, e_197, f198, g_199, h_200, hI201, hR0201⟩ := hR
   refine W.cutN (fun e w => ∃ y_a193 : BitVec 32, ∃ y_b194 : BitVec 32, ∃ y_c195 : BitVec 32, ∃ y_d_196 : BitVec 32, ∃ y_e_197 : BitVec 32, ∃ y_f198 : BitVec 32, ∃ y_g_199 : BitVec 32, ∃ y_h_200 : BitVec 32, (a193, b194, c195, d_196, e_197, f198, g_199, h_200) = (y_a193, y_b194, y_c195, y_d_196, y_e_197, y_f198, y_g_199, y_h_200) ∧ EnvHas e [(2, .pointer (some ⟨b4, 0, none⟩)), (4, .pointer (some ⟨b6, 0, none⟩)), (10, VU .u32 y_a193), (11, VU .u32 y_b194), (12, VU .u32 y_c195), (13, VU .u32 y_d_196), (14, VU .u32 y_e_197), (15, VU .u32 y_f198), (16, VU .u32 y_g_199), (17, VU .u32 y_h_200)] ∧ St B w0 (⟨some b6, 0, 8, fun q => VU .u32 ((fun _ => 0#32) q), true⟩ :: ⟨some b4, 0, 8, fun q => VU .u32 (state1 q), true⟩ :: L) w) ?_ ?_
   ·
    refine W.block ?_
    refine W.iter hI201 (fun (s201 : ((BitVec 32) × (BitVec 32) × (BitVec 32) × (BitVec 32) × (BitVec 32) × (BitVec 32) × (BitVec 32) × (BitVec 32) × Nat)) e w => EnvHas e [(2, .pointer (some ⟨b4, 0, none⟩)), (4, .pointer (some ⟨b6, 0, none⟩)), (5, .pointer (some ⟨b8, 0, none⟩)), (10, VU .u32 s201.1), (11, VU .u32 s201.2.1), (12, VU .u32 s201.2.2.1), (13, VU .u32 s201.2.2.2.1), (14, VU .u32 s201.2.2.2.2.1), (15, VU .u32 s201.2.2.2.2.2.1), (16, VU .u32 s201.2.2.2.2.2.2.1), (17, VU .u32 s201.2.2.2.2.2.2.2.1), (115, VN s201.2.2.2.2.2.2.2.2)] ∧ St B w0 (⟨some b8, 0, 64, fun q => VU .u32 (m91 q), true⟩ :: ⟨some b6, 0, 8, fun q => VU .u32 ((fun _ => 0#32) q), true⟩ :: ⟨some b4, 0, 8, fun q => VU .u32 (state1 q), true⟩ :: L) w) ⟨(zer (zer (zer (zer (zer (zer (zer (zer (zer (zer (zer (zer zen)))))))))))), h120⟩ ?_
    rintro ⟨a184, b185, c186, d_187, e_188, f189, g_190, h_191, t192⟩ o201 hR hx201 ev202 wl202 ⟨he202, h202⟩
    obtain ⟨ev202, rfl⟩ := he202.open
    unfold sha_Compress_l2 at hR
    refine W.seq_k fun _ k203 => W.regionT [(0, true)] (by kernel_rfl) ?_
    refine Plan.cmpP (a := (((t192 : Nat) : Int) : Int)) (b := (64 : Int)) (p := t192 < 64) rfl rfl rfl rfl icmp_ltN <| Plan.nil (k203 _ _ ?_); clear k203
    refine W.seq_k fun _ k204 => ?_
    by_cases hc205 : t192 < 64
    ·
     replace hR := ifT hR hc205
     refine W.condT (congrArg Value.bool (decide_eq_true hc205)) ?_
     refine W.skip ?_
     refine k204 _ _ ?_; clear k204
     refine W.seq_k fun _ k206 => ?_
     refine W.block ?_
     refine W.seq_k fun _ k207 => W.regionT [(0, true), (1, true)] (by kernel_rfl) ?_
     refine Plan.move_int rfl rfl <| Plan.assign_int rfl rfl <| Plan.nil (k207 _ _ ?_); clear k207
     refine W.seq_k fun _ k208 => ?_
     refine W.regionD FSha.mixed [(0, true), (1, true), (3, true), (6, true), (10, true), (11, true), (12, true), (13, true), (14, true), (15, true), (16, true), (17, true), (19, true), (20, true), (21, true), (23, true), (24, true), (25, true), (2, false), (4, false), (5, true), (7, false), (8, true), (9, true), (18, true), (22, true), (26, true), (27, true)] (by kernel_rfl) ?_
     have h209 := h202.drew
     refine Plan.move_int rfl rfl <| Plan.move_int rfl rfl <| Plan.move_int rfl rfl <| Plan.move_int rfl rfl <| Plan.move_int rfl rfl <| Plan.move_int rfl rfl <| Plan.andU .u32 (X := e_188) (Y := f189) rfl rfl rfl <| Plan.move_int rfl rfl ?_
     refine Plan.compU .u32 rfl rfl <| Plan.move_int rfl rfl <| Plan.andU .u32 (X := (~~~e_188)) (Y := g_190) rfl rfl rfl <| Plan.xorU .u32 (X := (e_188 &&& f189)) (Y := ((~~~e_188) &&& g_190)) rfl rfl rfl <| Plan.move_int rfl rfl <| Plan.idxArr1 (j := t192) FSha.arr126 rfl rfl rfl (by omega) <| Plan.load1 (j := t192) h209 (iG3 + 3) rfl rfl hG3 (by omega) FSha.sc26 <| Plan.move_int rfl rfl ?_
     refine Plan.idxArr1 (j := t192) FSha.arr126 rfl rfl rfl (by omega) <| Plan.load1 (j := t192) h209 0 rfl rfl rfl (by omega) FSha.sc26 ?_
     obtain ⟨x_211, hr210, hR⟩ := hR
     refine Plan.call (vs := [VN 6, VU .u32 e_188]) rfl FSha.call63 rfl (sha_right_ok  hr210 h209) ?_
     rintro _ w212 ⟨rfl, h212⟩
     refine ⟨_, rfl, .inl ⟨PIn.keep (PIn.cons 0 rfl (PIn.cons (iG3 + 3) hG3 PIn.nil)) h212, ?_⟩⟩
     obtain ⟨x_214, hr213, hR⟩ := hR
     refine Plan.call (vs := [VN 11, VU .u32 e_188]) rfl FSha.call63 rfl (sha_right_ok  hr213 h212) ?_
     rintro _ w215 ⟨rfl, h215⟩
     refine ⟨_, rfl, .inl ⟨PIn.keep (PIn.cons 0 rfl (PIn.cons (iG3 + 3) hG3 PIn.nil)) h215, ?_⟩⟩
     refine Plan.xorU .u32 (X := x_211) (Y := x_214) rfl rfl rfl ?_
     obtain ⟨x_217, hr216, hR⟩ := hR
     refine Plan.call (vs := [VN 25, VU .u32 e_188]) rfl FSha.call63 rfl (sha_right_ok  hr216 h215) ?_
     rintro _ w218 ⟨rfl, h218⟩
     refine ⟨_, rfl, .inl ⟨PIn.keep (PIn.cons 0 rfl (PIn.cons (iG3 + 3) hG3 PIn.nil)) h218, ?_⟩⟩
     refine Plan.xorU .u32 (X := (x_211 ^^^ x_214)) (Y := x_217) rfl rfl rfl <| Plan.addU .u32 (X := h_191) (Y := ((x_211 ^^^ x_214) ^^^ x_217)) rfl rfl rfl <| Plan.addU .u32 (X := (h_191 + ((x_211 ^^^ x_214) ^^^ x_217))) (Y := ((e_188 &&& f189) ^^^ ((~~~e_188) &&& g_190))) rfl rfl rfl <| Plan.addU .u32 (X := ((h_191 + ((x_211 ^^^ x_214) ^^^ x_217)) + ((e_188 &&& f189) ^^^ ((~~~e_188) &&& g_190)))) (Y := (K256 t192)) rfl rfl rfl <| Plan.addU .u32 (X := (((h_191 + ((x_211 ^^^ x_214) ^^^ x_217)) + ((e_188 &&& f189) ^^^ ((~~~e_188) &&& g_190))) + (K256 t192))) (Y := (m91 t192)) rfl rfl rfl <| Plan.assign_int rfl rfl <| Plan.nil (k208 _ _ ?_); clear k208
     refine W.seq_k fun _ k219 => W.regionT [(0, true), (1, false), (2, true), (3, false), (4, true), (5, true), (6, false), (7, true), (8, true), (9, true), (10, true), (11, true), (12, true), (13, true), (14, true), (15, true), (16, true), (17, true), (18, true), (19, true), (20, true)] (by kernel_rfl) ?_
     refine Plan.move_int rfl rfl ?_
     obtain ⟨x_221, hr220, hR⟩ := hR
     refine Plan.call (vs := [VN 2, VU .u32 a184]) rfl FSha.call63 rfl (sha_right_ok  hr220 h218) ?_
     rintro _ w222 ⟨rfl, h222⟩
     refine ⟨_, rfl, .inl ⟨PIn.keep PIn.nil h222, ?_⟩⟩
     refine Plan.move_int rfl rfl ?_
     obtain ⟨x_224, hr223, hR⟩ := hR
     refine Plan.call (vs := [VN 13, VU .u32 a184]) rfl FSha.call63 rfl (sha_right_ok  hr223 h222) ?_
     rintro _ w225 ⟨rfl, h225⟩
     refine ⟨_, rfl, .inl ⟨PIn.keep PIn.nil h225, ?_⟩⟩
     refine Plan.xorU .u32 (X := x_221) (Y := x_224) rfl rfl rfl <| Plan.move_int rfl rfl ?_
     obtain ⟨x_227, hr226, hR⟩ := hR
     refine Plan.call (vs := [VN 22, VU .u32 a184]) rfl FSha.call63 rfl (sha_right_ok  hr226 h225) ?_
     rintro _ w228 ⟨rfl, h228⟩
     refine ⟨_, rfl, .inl ⟨PIn.keep PIn.nil h228, ?_⟩⟩
     refine Plan.xorU .u32 (X := (x_221 ^^^ x_224)) (Y := x_227) rfl rfl rfl <| Plan.move_int rfl rfl <| Plan.move_int rfl rfl <| Plan.andU .u32 (X := a184) (Y := b185) rfl rfl rfl <| Plan.move_int rfl rfl <| Plan.move_int rfl rfl <| Plan.andU .u32 (X := a184) (Y := c186) rfl rfl rfl <| Plan.xorU .u32 (X := (a184 &&& b185)) (Y := (a184 &&& c186)) rfl rfl rfl ?_
     refine Plan.move_int rfl rfl <| Plan.move_int rfl rfl <| Plan.andU .u32 (X := b185) (Y := c186) rfl rfl rfl <| Plan.xorU .u32 (X := ((a184 &&& b185) ^^^ (a184 &&& c186))) (Y := (b185 &&& c186)) rfl rfl rfl <| Plan.addU .u32 (X := ((x_221 ^^^ x_224) ^^^ x_227)) (Y := (((a184 &&& b185) ^^^ (a184 &&& c186)) ^^^ (b185 &&& c186))) rfl rfl rfl <| Plan.assign_int rfl rfl <| Plan.nil (k219 _ _ ?_); clear k219
     refine W.regionT [(0, true), (1, true), (2, true), (3, true), (4, true), (5, true), (6, true), (7, true), (8, true), (9, true), (10, true), (11, true), (12, true), (13, true), (14, true), (15, true), (16, true), (17, true), (18, true), (19, true)] (by kernel_rfl) ?_
     refine Plan.move_int rfl rfl <| Plan.move_int rfl rfl <| Plan.addU .u32 (X := ((((h_191 + ((x_211 ^^^ x_214) ^^^ x_217)) + ((e_188 &&& f189) ^^^ ((~~~e_188) &&& g_190))) + (K256 t192)) + (m91 t192))) (Y := (((x_221 ^^^ x_224) ^^^ x_227) + (((a184 &&& b185) ^^^ (a184 &&& c186)) ^^^ (b185 &&& c186)))) rfl rfl rfl <| Plan.move_int rfl rfl <| Plan.move_int rfl rfl <| Plan.move_int rfl rfl <| Plan.move_int rfl rfl <| Plan.move_int rfl rfl ?_
     refine Plan.addU .u32 (X := d_187) (Y := ((((h_191 + ((x_211 ^^^ x_214) ^^^ x_217)) + ((e_188 &&& f189) ^^^ ((~~~e_188) &&& g_190))) + (K256 t192)) + (m91 t192))) rfl rfl rfl <| Plan.move_int rfl rfl <| Plan.move_int rfl rfl <| Plan.move_int rfl rfl <| Plan.assign_int rfl rfl <| Plan.assign_int rfl rfl <| Plan.assign_int rfl rfl <| Plan.assign_int rfl rfl ?_
     refine Plan.assign_int rfl rfl <| Plan.assign_int rfl rfl <| Plan.assign_int rfl rfl <| Plan.assign_int rfl rfl <| Plan.nil ?_
     refine blockR_norm ?_
     refine k206 _ _ ?_; clear k206
     refine W.regionT [(0, true), (1, true)] (by kernel_rfl) ?_
     refine Plan.addN (a := t192) (b := 1) rfl rfl rfl (by omega) <| Plan.move_int rfl rfl <| Plan.nil ?_
     exact iterR_norm ⟨_, hR, (zer (zer (zer (zer (zer (zer (zer (zer (zer (zer (zer (zer zen)))))))))))), h228⟩
    ·
     replace hR := ifF hR hc205
     refine W.condF (congrArg Value.bool (decide_eq_false hc205)) ?_
     refine W.exit (thenR_exit (iterR_exit (blockR_here ?_)))
     have h229 := St.pickT (C := [_, _, _]) h202 [1, 2] (by decide)
     simp only [pick, zfc, zfn, zgz, zgs, zca, zna] at h229
     exact ⟨a184, b185, c186, d_187, e_188, f189, g_190, h_191, (hx201 _ hR).symm, (zer (zer (zer (zer (zer (zer (zer (zer (zer (zer zen)))))))))), h229⟩
   ·
    rintro ev230 wl230 ⟨y_a193, y_b194, y_c195, y_d_196, y_e_197, y_f198, y_g_199, y_h_200, hy230, he230, h230⟩
    obtain ⟨ev230, rfl⟩ := he230.open
    cases hy230
    replace hR := hR0201
    refine k121 _ _ ?_; clear k121
    refine W.seq_k fun _ k231 => W.seq_k fun _ k232 => ?_
    refine W.regionT [(0, true), (1, true), (2, true), (3, true), (4, true), (5, true), (6, true), (7, true), (8, true), (9, true)] (by kernel_rfl) ?_
    refine Plan.move_int rfl rfl <| Plan.move_int rfl rfl <| Plan.move_int rfl rfl <| Plan.move_int rfl rfl <| Plan.move_int rfl rfl <| Plan.move_int rfl rfl <| Plan.move_int rfl rfl <| Plan.move_int rfl rfl ?_
    refine Plan.buildArr (ps := [(8, fun q => VU .u32 ((lit [a193, b194, c195, d_196, e_197, f198, g_199, h_200]) q))]) FSha.arr118 FSha.z118 rfl rfl rfl ?_
    refine Plan.move_int rfl rfl <| Plan.nil (k232 _ _ ?_); clear k232
    obtain ⟨m249, hI250, hR0250⟩ := hR
    refine W.cutN (fun e w => ∃ y_m249 : Nat → BitVec 32, m249 = y_m249 ∧ EnvHas e [(2, .pointer (some ⟨b4, 0, none⟩)), (4, .pointer (some ⟨b6, 0, none⟩))] ∧ St B w0 (⟨some b6, 0, 8, fun q => VU .u32 ((fun _ => 0#32) q), true⟩ :: ⟨some b4, 0, 8, fun q => VU .u32 (y_m249 q), true⟩ :: L) w) ?_ ?_
    ·
     refine W.block ?_
     refine W.iter hI250 (fun (s250 : (Nat × (Nat → BitVec 32))) e w => EnvHas e [(2, .pointer (some ⟨b4, 0, none⟩)), (4, .pointer (some ⟨b6, 0, none⟩)), (186, AG [(8, fun q => VU .u32 ((lit [a193, b194, c195, d_196, e_197, f198, g_199, h_200]) q))]), (187, VN s250.1)] ∧ St B w0 (⟨some b6, 0, 8, fun q => VU .u32 ((fun _ => 0#32) q), true⟩ :: ⟨some b4, 0, 8, fun q => VU .u32 (s250.2 q), true⟩ :: L) w) ⟨(zer (zer (zer (zer zen)))), h230⟩ ?_
     rintro ⟨t247, m248⟩ o250 hR hx250 ev251 wl251 ⟨he251, h251⟩
     obtain ⟨ev251, rfl⟩ := he251.open
     unfold sha_Compress_l3 at hR
     refine W.seq_k fun _ k252 => W.regionT [(0, true)] (by kernel_rfl) ?_
     refine Plan.cmpP (a := (((t247 : Nat) : Int) : Int)) (b := (8 : Int)) (p := t247 < 8) rfl rfl rfl rfl icmp_ltN <| Plan.nil (k252 _ _ ?_); clear k252
     refine W.seq_k fun _ k253 => ?_
     by_cases hc254 : t247 < 8
     ·
      replace hR := ifT hR hc254
      refine W.condT (congrArg Value.bool (decide_eq_true hc254)) ?_
      refine W.skip ?_
      refine k253 _ _ ?_; clear k253
      refine W.seq_k fun _ k255 => ?_
      refine W.block ?_
      refine W.seq_k fun _ k256 => W.regionT [(0, true), (1, true), (2, true), (3, true)] (by kernel_rfl) ?_
      refine Plan.move_int rfl rfl <| Plan.indexA (j := t247) FSha.isarr118 FSha.sz26 FSha.sc26 rfl rfl rfl (by omega) (by decide) <| Plan.assign_int rfl rfl <| Plan.assign_int rfl rfl <| Plan.nil (k256 _ _ ?_); clear k256
      refine W.regionT [(0, true), (1, true), (2, true), (3, true), (4, true), (5, true), (6, false)] (by kernel_rfl) ?_
      refine Plan.move_int rfl rfl <| Plan.idxArr1 (j := t247) FSha.arr118 rfl rfl rfl (by omega) <| Plan.load1 (j := t247) h251 1 rfl rfl rfl (by omega) FSha.sc26 <| Plan.move_int rfl rfl <| Plan.addU .u32 (X := (m248 t247)) (Y := ((lit [a193, b194, c195, d_196, e_197, f198, g_199, h_200]) t247)) rfl rfl rfl <| Plan.idxArr1 (j := t247) FSha.arr118 rfl rfl rfl (by omega) ?_
      refine Plan.storeU (j := t247) (X := ((m248 t247) + ((lit [a193, b194, c195, d_196, e_197, f198, g_199, h_200]) t247))) h251 1 rfl rfl rfl rfl (by omega) FSha.sz26 rfl fun w257 h257 => ?_
      simp only [zca, zna, zsz, zss] at h257
      refine Plan.nil ?_
      refine blockR_norm ?_
      refine k255 _ _ ?_; clear k255
      refine W.regionT [(0, true), (1, true)] (by kernel_rfl) ?_
      refine Plan.addN (a := t247) (b := 1) rfl rfl rfl (by omega) <| Plan.move_int rfl rfl <| Plan.nil ?_
      exact iterR_norm ⟨_, hR, (zer (zer (zer (zer zen)))), h257⟩
     ·
      replace hR := ifF hR hc254
      refine W.condF (congrArg Value.bool (decide_eq_false hc254)) ?_
      refine W.exit (thenR_exit (iterR_exit (blockR_here ?_)))
      exact ⟨m248, (hx250 _ hR).symm, (zer (zer zen)), h251⟩
    ·
     rintro ev258 wl258 ⟨y_m249, hy258, he258, h258⟩
     obtain ⟨ev258, rfl⟩ := he258.open
     subst hy258
     replace hR := hR0250
     refine k231 _ _ ?_; clear k231
     refine W.seq_k fun _ k259 => W.regionT [(0, true), (1, false)] (by kernel_rfl) ?_
     refine Plan.loadA1 h258 1 rfl rfl rfl FSha.agg118 ?_
     refine Plan.storeA (f' := fun q => VU .u32 (m249 q)) h258 0 rfl rfl rfl rfl (fun _ _ => rfl) FSha.sz118 rfl fun w260 h260 => ?_
     simp only [zca, zna, zsz, zss] at h260
     refine Plan.nil (k259 _ _ ?_); clear k259
     refine W.ret (finR_ret ?_)
     have h261 := St.pickT (C := [_, _]) h260 [] (by decide)
     simp only [pick, zfc, zfn, zgz, zgs, zca, zna] at h261
     subst r
     refine RetOk.mk (.agg h260 rfl (.cons 0 rfl .nil) FSha.agg118 .nil) ?_
     exact ⟨rfl, h261⟩
theorem sha_Hash_Write_ok {B : Nat} {w0 w : World} {L : List Rg} {iG3 : Nat} (hG3 : L[iG3]? = some ⟨some 3, 0, 64, fun q => VU .u32 (K256 q), false⟩) {bh_1 : Nat} {hstate2 : Nat → BitVec 32} {hblock3 : Nat → BitVec 8} {hn4 : Int} {b5 : List Byte} {ab5 : Option Addr} {nb5 cb5 ib5 : Nat} (hb5 : Bx L ib5 ab5 nb5 cb5 b5) {r : ((Nat → BitVec 32) × (Nat → BitVec 8) × Int)} (hR : sha_Hash_Write hstate2 hblock3 hn4 b5 r) (HST : St B w0 (⟨some bh_1, 0, 8, fun q => VU .u32 (hstate2 q), true⟩ :: ⟨some bh_1, 8, 64, fun q => VU .u8 (hblock3 q), true⟩ :: ⟨some bh_1, 72, 1, fun _ => .int .i64 hn4, true⟩ :: L) w) :
  Calls Tryd.prog 47 #[.pointer (some ⟨bh_1, 0, none⟩), .slice ab5 nb5 cb5] w fun e w' => e = .returned (.tuple #[]) ∧ St B w0 (⟨some bh_1, 0, 8, fun q => VU .u32 (r.1 q), true⟩ :: ⟨some bh_1, 8, 64, fun q => VU .u8 (r.2.1 q), true⟩ :: ⟨some bh_1, 72, 1, fun _ => .int .i64 r.2.2, true⟩ :: L) w' := by
 refine W.enter 48 Tryd.func47 rfl rfl rfl ?_
 unfold sha_Hash_Write at hR
 have eb5 := hb5.hl; subst eb5
 obtain ⟨m60, m61, m62, hI63, hR063⟩ := hR
 refine W.cutN (fun e w => ∃ y_m60 : Nat → BitVec 32, ∃ y_m61 : Nat → BitVec 8, ∃ y_m62 : Int, (m60, m61, m62) = (y_m60, y_m61, y_m62) ∧ EnvHas e [] ∧ St B w0 (⟨some bh_1, 0, 8, fun q => VU .u32 (y_m60 q), true⟩ :: ⟨some bh_1, 8, 64, fun q => VU .u8 (y_m61 q), true⟩ :: ⟨some bh_1, 72, 1, fun _ => .int .i64 y_m62, true⟩ :: L) w) ?_ ?_
 ·
  refine W.block ?_
  refine W.iter hI63 (fun (s63 : ((List Byte) × (Nat → BitVec 32) × (Nat → BitVec 8) × Int)) e w => ∃ ab56 : Option Addr, ∃ cb56 : Nat, EnvHas e [(0, .pointer (some ⟨bh_1, 0, none⟩)), (1, .slice ab56 s63.1.length cb56)] ∧ St B w0 (⟨some bh_1, 0, 8, fun q => VU .u32 (s63.2.1 q), true⟩ :: ⟨some bh_1, 8, 64, fun q => VU .u8 (s63.2.2.1 q), true⟩ :: ⟨some bh_1, 72, 1, fun _ => .int .i64 s63.2.2.2, true⟩ :: L) w ∧ Bx L ib5 ab56 s63.1.length cb56 s63.1) ⟨ab5, cb5, (zer (zer zen)), HST, hb5⟩ ?_
  rintro ⟨b56, m57, m58, m59⟩ o63 hR hx63 ev64 wl64 ⟨ab56, cb56, he64, h64, hb56⟩
  obtain ⟨ev64, rfl⟩ := he64.open
  unfold sha_Hash_Write_l0 at hR
  refine W.seq_k fun _ k65 => W.seq_k fun _ k66 => ?_
  refine W.regionT [(0, true), (1, true), (2, true)] (by kernel_rfl) ?_
  refine Plan.move_slice rfl rfl <| Plan.len FSha.isl40 rfl rfl <| Plan.cmpP (a := (((b56.length : Nat) : Int) : Int)) (b := (0 : Int)) (p := 0 < b56.length) rfl rfl rfl rfl icmp_gtN <| Plan.nil (k66 _ _ ?_); clear k66
  by_cases hc67 : 0 < b56.length
  ·
   replace hR := ifT hR hc67
   refine W.condT (congrArg Value.bool (decide_eq_true hc67)) ?_
   refine W.skip ?_
   refine k65 _ _ ?_; clear k65
   refine W.block ?_
   refine W.seq_k fun _ k68 => ?_
   refine W.regionD FSha.mixed [(0, true), (1, true), (2, true), (3, true), (4, true), (5, true), (6, true), (7, true), (8, true), (9, true), (10, false), (11, true)] (by kernel_rfl) ?_
   have h69 := h64.drew
   refine Plan.move_ptr rfl rfl <| Plan.nilCheck rfl rfl <| Plan.fieldAddr 8 FSha.fld120_1 rfl rfl <| Plan.move_ptr rfl rfl <| Plan.nilCheck rfl rfl <| Plan.fieldAddr 72 FSha.fld120_2 rfl rfl <| Plan.load0 h69 2 rfl rfl rfl (by omega) FSha.sc3 ?_
   have hb70 := tmod_bd m59 (c := 64) (by decide)
   refine Plan.remI (a := m59) (b := 64) rfl rfl rfl (by omega) ?_
   obtain ⟨hc71, hR⟩ := hR
   obtain ⟨hc72, hR⟩ := hR
   refine Plan.slArrO (lo := (m59.tmod 64).toNat) (hi := 64) (m := (64 - (m59.tmod 64).toNat)) (c := (64 - (m59.tmod 64).toNat)) (o' := 8 + ((m59.tmod 64).toNat)) FSha.arr31 rfl rfl ⟨_, congrArg (Value.int .i64) (Int.toNat_of_nonneg hc71).symm⟩ rfl (by omega) (by omega) (by omega) (by omega) <| Plan.move_slice rfl rfl ?_
   refine Plan.copyB (jd := (m59.tmod 64).toNat) (X := b56) h69 1 (min b56.length (64 - (m59.tmod 64).toNat)) FSha.sl40 rfl rfl rfl rfl ((hb56.app [_, _, _]).bs' 1 rfl) (fun _ => ⟨_, rfl, rfl⟩) rfl rfl (by omega) (EffO.keep (PIn.cons 2 rfl PIn.nil)) fun w73 h73 => ?_
   simp only [zca, zna, zsz, zss] at h73
   refine Plan.assign_int rfl rfl <| Plan.nil (k68 _ _ ?_); clear k68
   refine W.seq_k fun _ k74 => W.regionT [(0, true), (1, true), (2, true), (3, true)] (by kernel_rfl) ?_
   refine Plan.move_slice rfl rfl <| Plan.move_int rfl rfl ?_
   obtain ⟨hc75, hR⟩ := hR
   refine Plan.slV (lo := (min b56.length (64 - (m59.tmod 64).toNat))) (hi := b56.length) hb56 FSha.sl40 rfl rfl ⟨_, rfl⟩ rfl hc75 fun a76 c76 hv76 => ?_
   refine Plan.assign_slice rfl rfl <| Plan.nil (k74 _ _ ?_); clear k74
   refine W.seq_k fun _ k77 => W.regionT [(0, true), (1, true), (2, true), (3, true), (4, true), (5, true), (6, true), (7, true), (8, false)] (by kernel_rfl) ?_
   refine Plan.move_ptr rfl rfl <| Plan.nilCheck rfl rfl <| Plan.fieldAddr 72 FSha.fld120_2 rfl rfl <| Plan.load0 h73 2 rfl rfl rfl (by omega) FSha.sc3 <| Plan.move_int rfl rfl ?_
   obtain ⟨hc78, hR⟩ := hR
   refine Plan.addI (a := m59) (b := (((min b56.length (64 - (m59.tmod 64).toNat)) : Nat) : Int)) rfl rfl rfl (by omega) <| Plan.nilCheck rfl rfl <| Plan.fieldAddr 72 FSha.fld120_2 rfl rfl ?_
   refine Plan.storeC_int h73 2 rfl rfl rfl rfl FSha.sz3 rfl fun w79 h79 => ?_
   simp only [zca, zna, zsz, zss] at h79
   refine Plan.nil (k77 _ _ ?_); clear k77
   refine W.seq_k fun _ k80 => W.regionT [(0, true), (1, true), (2, true), (3, true), (4, true), (5, true)] (by kernel_rfl) ?_
   refine Plan.move_ptr rfl rfl <| Plan.nilCheck rfl rfl <| Plan.fieldAddr 72 FSha.fld120_2 rfl rfl <| Plan.load0 h79 2 rfl rfl rfl (by omega) FSha.sc3 ?_
   have hb81 := tmod_bd (m59 + (((min b56.length (64 - (m59.tmod 64).toNat)) : Nat) : Int)) (c := 64) (by decide)
   refine Plan.remI (a := (m59 + (((min b56.length (64 - (m59.tmod 64).toNat)) : Nat) : Int))) (b := 64) rfl rfl rfl (by omega) <| Plan.cmpP (a := (((m59 + (((min b56.length (64 - (m59.tmod 64).toNat)) : Nat) : Int)).tmod 64) : Int)) (b := (0 : Int)) (p := ((m59 + (((min b56.length (64 - (m59.tmod 64).toNat)) : Nat) : Int)).tmod 64) = 0) rfl rfl rfl rfl icmp_eq <| Plan.nil (k80 _ _ ?_); clear k80
   by_cases hc82 : ((m59 + (((min b56.length (64 - (m59.tmod 64).toNat)) : Nat) : Int)).tmod 64) = 0
   ·
    replace hR := ifT hR hc82
    refine W.condT (congrArg Value.bool (decide_eq_true hc82)) ?_
    refine W.regionD FSha.mixed [(0, true), (1, true), (2, true), (3, true), (4, true), (5, true), (6, true), (7, true), (8, true), (9, false), (10, true), (11, true), (12, false)] (by kernel_rfl) ?_
    have h83 := h79.drew
    refine Plan.move_ptr rfl rfl <| Plan.move_ptr rfl rfl <| Plan.nilCheck rfl rfl <| Plan.fieldAddr0 FSha.fld120_0 rfl rfl <| Plan.loadA1 h83 0 rfl rfl rfl FSha.agg118 <| Plan.move_ptr rfl rfl <| Plan.nilCheck rfl rfl <| Plan.fieldAddr 8 FSha.fld120_1 rfl rfl ?_
    refine Plan.loadA1 h83 1 rfl rfl rfl FSha.agg31 ?_
    obtain ⟨x_85, hr84, hR⟩ := hR
    refine Plan.call (vs := [AG [(8, fun q => VU .u32 (m57 q))], AG [(64, fun q => VU .u8 ((spl m58 ((m59.tmod 64).toNat) (min b56.length (64 - (m59.tmod 64).toNat)) (lit b56)) q))]]) rfl FSha.call57 rfl (sha_Compress_ok (iG3 := iG3 + 3) hG3 hr84 h83) ?_
    rintro _ w86 ⟨rfl, h86⟩
    refine ⟨_, rfl, .inr ⟨rfl, ?_⟩⟩
    refine Plan.nilCheck rfl rfl <| Plan.fieldAddr0 FSha.fld120_0 rfl rfl ?_
    refine Plan.storeA (f' := fun q => VU .u32 (x_85 q)) h86 0 rfl rfl rfl rfl (fun _ _ => rfl) FSha.sz118 rfl fun w87 h87 => ?_
    simp only [zca, zna, zsz, zss] at h87
    refine Plan.nil ?_
    refine blockR_norm ?_
    exact iterR_norm ⟨_, hR, a76, c76, (zer (zer zen)), h87, hv76⟩
   ·
    replace hR := ifF hR hc82
    refine W.condF (congrArg Value.bool (decide_eq_false hc82)) ?_
    refine W.skip ?_
    refine blockR_norm ?_
    exact iterR_norm ⟨_, hR, a76, c76, (zer (zer zen)), h79, hv76⟩
  ·
   replace hR := ifF hR hc67
   refine W.condF (congrArg Value.bool (decide_eq_false hc67)) ?_
   refine W.exit (thenR_exit (iterR_exit (blockR_here ?_)))
   exact ⟨m57, m58, m59, (hx63 _ hR).symm, zen, h64⟩
 ·
  rintro ev88 wl88 ⟨y_m60, y_m61, y_m62, hy88, he88, h88⟩
  obtain ⟨ev88, rfl⟩ := he88.open
  cases hy88
  replace hR := hR063
  refine finR_norm ?_
  subst r
  refine RetOk.mk .nil ?_
  exact ⟨rfl, h88⟩
theorem sha_Hash_Copy_ok {B : Nat} {w0 w : World} {L : List Rg} {bh_1 : Nat} {hstate2 : Nat → BitVec 32} {hblock3 : Nat → BitVec 8} {hn4 : Int} {r : ((Nat → BitVec 32) × (Nat → BitVec 8) × Int)} (hR : sha_Hash_Copy hstate2 hblock3 hn4 r) (HST : St B w0 (⟨some bh_1, 0, 8, fun q => VU .u32 (hstate2 q), true⟩ :: ⟨some bh_1, 8, 64, fun q => VU .u8 (hblock3 q), true⟩ :: ⟨some bh_1, 72, 1, fun _ => .int .i64 hn4, true⟩ :: L) w) :
  Calls Tryd.prog 58 #[.pointer (some ⟨bh_1, 0, none⟩)] w fun e w' => ∃ b0 : Nat, e = .returned (.pointer (some ⟨b0, 0, none⟩)) ∧ St B w0 (⟨some b0, 0, 8, fun q => VU .u32 (r.1 q), true⟩ :: ⟨some b0, 8, 64, fun q => VU .u8 (r.2.1 q), true⟩ :: ⟨some b0, 72, 1, fun _ => .int .i64 r.2.2, true⟩ :: ⟨some bh_1, 0, 8, fun q => VU .u32 (hstate2 q), true⟩ :: ⟨some bh_1, 8, 64, fun q => VU .u8 (hblock3 q), true⟩ :: ⟨some bh_1, 72, 1, fun _ => .int .i64 hn4, true⟩ :: L) w' := by
 refine W.enter 7 Tryd.func58 rfl rfl rfl ?_
 unfold sha_Hash_Copy at hR
 refine W.seq_k fun _ k5 => W.regionT [(0, true)] (by kernel_rfl) ?_
 refine Plan.assign_ptr rfl rfl <| Plan.nil (k5 _ _ ?_); clear k5
 refine W.seq_k fun _ k6 => W.regionT [(0, true), (1, true), (2, true), (3, false), (4, false)] (by kernel_rfl) ?_
 refine Plan.move_ptr rfl rfl <| Plan.nilCheck rfl rfl <| Plan.loadA HST rfl rfl (.cons 0 rfl (.cons 1 rfl (.cons 2 rfl .nil))) FSha.agg120 ?_
 refine Plan.alloc HST rfl FSha.z120 (PIn.parts (.cons 0 rfl (.cons 1 rfl (.cons 2 rfl .nil))) PIn.nil) fun b7 w7 hb7 h7 => ?_
 simp only [rngs, Nat.zero_add, Nat.reduceAdd, zca, zna] at h7
 refine Plan.storeP (ps := [(8, fun q => VU .u32 (hstate2 q)), (64, fun q => VU .u8 (hblock3 q)), (1, fun _ => .int .i64 hn4)]) h7 rfl rfl rfl (.cons 0 rfl (.cons 1 rfl (.cons 2 rfl .nil))) ⟨fun _ _ => rfl, fun _ _ => rfl, fun _ _ => rfl, trivial⟩ FSha.sz120 (EffO.wait rfl) fun w8 h8 => ?_
 simp only [zca, zna, zsz, zss] at h8
 refine Plan.nil (k6 _ _ ?_); clear k6
 refine W.seq_k fun _ k9 => W.regionT [(0, true)] (by kernel_rfl) ?_
 refine Plan.assign_ptr rfl rfl <| Plan.nil (k9 _ _ ?_); clear k9
 refine W.ret (finR_ret ?_)
 subst r
 refine RetOk.mk (.tmp_ptr rfl .nil) ?_
 exact ⟨b7, rfl, h8⟩
theorem sha_Hash_Sum_ok {B : Nat} {w0 w : World} {L : List Rg} {iG3 : Nat} (hG3 : L[iG3]? = some ⟨some 3, 0, 64, fun q => VU .u32 (K256 q), false⟩) {bh_1 : Nat} {hstate2 : Nat → BitVec 32} {hblock3 : Nat → BitVec 8} {hn4 : Int} {r : (Nat → BitVec 8)} (hR : sha_Hash_Sum hstate2 hblock3 hn4 r) (HST : St B w0 (⟨some bh_1, 0, 8, fun q => VU .u32 (hstate2 q), true⟩ :: ⟨some bh_1, 8, 64, fun q => VU .u8 (hblock3 q), true⟩ :: ⟨some bh_1, 72, 1, fun _ => .int .i64 hn4, true⟩ :: L) w) :
  Calls Tryd.prog 49 #[.pointer (some ⟨bh_1, 0, none⟩)] w fun e w' => e = .returned (AG [(32, fun q => VU .u8 (r q))]) ∧ St B w0 (⟨some bh_1, 0, 8, fun q => VU .u32 (hstate2 q), true⟩ :: ⟨some bh_1, 8, 64, fun q => VU .u8 (hblock3 q), true⟩ :: ⟨some bh_1, 72, 1, fun _ => .int .i64 hn4, true⟩ :: L) w' := by
 refine W.enter 78 Tryd.func49 rfl rfl rfl ?_
 unfold sha_Hash_Sum at hR
 refine W.seq_k fun _ k5 => W.regionT [(0, false)] (by kernel_rfl) ?_
 refine Plan.alloc HST rfl FSha.z57 PIn.nil fun b6 w6 hb6 h6 => ?_
 simp only [rngs, Nat.zero_add, Nat.reduceAdd, zca, zna] at h6
 refine Plan.nil (k5 _ _ ?_); clear k5
 refine W.seq_k fun _ k7 => W.regionT [(0, true), (1, false), (2, true)] (by kernel_rfl) ?_
 refine Plan.move_ptr rfl rfl ?_
 have h8 := St.pickT (C := [_, _, _, _]) h6 [1, 2, 3, 0] (by decide)
 simp only [pick, zfc, zfn, zgz, zgs, zca, zna] at h8
 obtain ⟨x_10, x_11, x_12, hr9, hR⟩ := hR
 refine Plan.call (vs := [.pointer (some ⟨bh_1, 0, none⟩)]) rfl FSha.call58 rfl (sha_Hash_Copy_ok  hr9 h8) ?_
 rintro _ w14 ⟨b0_13, rfl, h14⟩
 refine ⟨_, rfl, .inl ⟨PIn.keep PIn.nil h14, ?_⟩⟩
 refine Plan.assign_ptr rfl rfl <| Plan.nil (k7 _ _ ?_); clear k7
 refine W.seq_k fun _ k15 => W.regionT [(0, true), (1, true), (2, true), (3, true), (4, true), (5, true), (6, true)] (by kernel_rfl) ?_
 refine Plan.move_ptr rfl rfl <| Plan.nilCheck rfl rfl <| Plan.fieldAddr 72 FSha.fld120_2 rfl rfl <| Plan.load0 h14 5 rfl rfl rfl (by omega) FSha.sc3 <| Plan.convIU .u64 (a := hn4) FSha.u67 FSha.some3 rfl rfl <| Plan.mulU .u64 (X := 8#64) (Y := (BitVec.ofInt 64 hn4)) rfl rfl rfl <| Plan.assign_int rfl rfl <| Plan.nil (k15 _ _ ?_); clear k15
 refine W.seq_k fun _ k16 => W.regionT [(0, true), (1, false), (2, false)] (by kernel_rfl) ?_
 refine Plan.move_ptr rfl rfl ?_
 refine Plan.buildSlice h14 (ps := [(1, fun q => VU .u8 (lit ([128#8] : List Byte) q))]) FSha.slu40 FSha.sz5 FSha.zv5 (by decide) (by decide) rfl rfl (by kernel_rfl) (EffO.keep PIn.nil) fun b17 w17 hb17 h17 => ?_
 simp only [rngs, List.cons_append, List.nil_append] at h17
 have ho17 : Ow (some ⟨b17, 0, none⟩) (some b17) ([128#8] : List Byte).length 1 (lit ([128#8] : List Byte)) ([128#8] : List Byte) := ⟨.inr ⟨b17, rfl, rfl⟩, Nat.le_refl _, rfl, fun q _ => rfl⟩
 have h18 := St.pickT (C := [_, _, _, _, _, _, _, _]) h17 [1, 2, 3, 0, 4, 5, 6, 7] (by decide)
 simp only [pick, zfc, zfn, zgz, zgs, zca, zna] at h18
 obtain ⟨x_20, x_21, x_22, hr19, hR⟩ := hR
 refine Plan.call (vs := [.pointer (some ⟨b0_13, 0, none⟩), .slice (some ⟨b17, 0, none⟩) (([128#8] : List Byte).length) 1]) rfl FSha.call47 rfl (sha_Hash_Write_ok (iG3 := iG3 + 5) hG3 (by exact (ho17.bx 0 rfl)) hr19 h18) ?_
 rintro _ w23 ⟨rfl, h23⟩
 refine ⟨_, rfl, .inl ⟨PIn.keep PIn.nil h23, ?_⟩⟩
 refine Plan.nil (k16 _ _ ?_); clear k16
 refine W.seq_k fun _ k24 => ?_
 obtain ⟨m53, m54, m55, hI56, hR056⟩ := hR
 refine W.cutN (fun e w => ∃ y_m53 : Nat → BitVec 32, ∃ y_m54 : Nat → BitVec 8, ∃ y_m55 : Int, (m53, m54, m55) = (y_m53, y_m54, y_m55) ∧ EnvHas e [(2, .pointer (some ⟨b6, 0, none⟩)), (3, .pointer (some ⟨b0_13, 0, none⟩)), (4, VU .u64 ((8#64) * (BitVec.ofInt 64 hn4)))] ∧ St B w0 (⟨some b0_13, 0, 8, fun q => VU .u32 (y_m53 q), true⟩ :: ⟨some b0_13, 8, 64, fun q => VU .u8 (y_m54 q), true⟩ :: ⟨some b0_13, 72, 1, fun _ => .int .i64 y_m55, true⟩ :: ⟨some bh_1, 0, 8, fun q => VU .u32 (hstate2 q), true⟩ :: ⟨some bh_1, 8, 64, fun q => VU .u8 (hblock3 q), true⟩ :: ⟨some bh_1, 72, 1, fun _ => .int .i64 hn4, true⟩ :: ⟨some b6, 0, 32, fun q => VU .u8 ((fun _ => 0#8) q), true⟩ :: L) w) ?_ ?_
 ·
  refine W.block ?_
  have h57 := St.pickT (C := [_, _, _, _, _, _, _, _]) h23 [0, 1, 2, 4, 5, 6, 7] (by decide)
  simp only [pick, zfc, zfn, zgz, zgs, zca, zna] at h57
  refine W.iter hI56 (fun (s56 : ((Nat → BitVec 32) × (Nat → BitVec 8) × Int)) e w => EnvHas e [(2, .pointer (some ⟨b6, 0, none⟩)), (3, .pointer (some ⟨b0_13, 0, none⟩)), (4, VU .u64 ((8#64) * (BitVec.ofInt 64 hn4)))] ∧ St B w0 (⟨some b0_13, 0, 8, fun q => VU .u32 (s56.1 q), true⟩ :: ⟨some b0_13, 8, 64, fun q => VU .u8 (s56.2.1 q), true⟩ :: ⟨some b0_13, 72, 1, fun _ => .int .i64 s56.2.2, true⟩ :: ⟨some bh_1, 0, 8, fun q => VU .u32 (hstate2 q), true⟩ :: ⟨some bh_1, 8, 64, fun q => VU .u8 (hblock3 q), true⟩ :: ⟨some bh_1, 72, 1, fun _ => .int .i64 hn4, true⟩ :: ⟨some b6, 0, 32, fun q => VU .u8 ((fun _ => 0#8) q), true⟩ :: L) w) ⟨(zer (zer (zer zen))), h57⟩ ?_
  rintro ⟨m50, m51, m52⟩ o56 hR hx56 ev58 wl58 ⟨he58, h58⟩
  obtain ⟨ev58, rfl⟩ := he58.open
  unfold sha_Hash_Sum_l0 at hR
  refine W.seq_k fun _ k59 => W.seq_k fun _ k60 => ?_
  refine W.regionT [(0, true), (1, true), (2, true), (3, true), (4, true), (5, true)] (by kernel_rfl) ?_
  refine Plan.move_ptr rfl rfl <| Plan.nilCheck rfl rfl <| Plan.fieldAddr 72 FSha.fld120_2 rfl rfl <| Plan.load0 h58 2 rfl rfl rfl (by omega) FSha.sc3 ?_
  have hb61 := tmod_bd m52 (c := 64) (by decide)
  refine Plan.remI (a := m52) (b := 64) rfl rfl rfl (by omega) <| Plan.cmpP (a := ((m52.tmod 64) : Int)) (b := (56 : Int)) (p := (m52.tmod 64) ≠ 56) rfl rfl rfl rfl icmp_ne <| Plan.nil (k60 _ _ ?_); clear k60
  by_cases hc62 : (m52.tmod 64) ≠ 56
  ·
   replace hR := ifT hR hc62
   refine W.condT (congrArg Value.bool (decide_eq_true hc62)) ?_
   refine W.skip ?_
   refine k59 _ _ ?_; clear k59
   refine W.block ?_
   refine W.regionT [(0, true), (1, false), (2, false)] (by kernel_rfl) ?_
   refine Plan.move_ptr rfl rfl ?_
   refine Plan.buildSlice h58 (ps := [(1, fun q => VU .u8 (lit ([0#8] : List Byte) q))]) FSha.slu40 FSha.sz5 FSha.zv5 (by decide) (by decide) rfl rfl (by kernel_rfl) (EffO.keep PIn.nil) fun b63 w63 hb63 h63 => ?_
   simp only [rngs, List.cons_append, List.nil_append] at h63
   have ho63 : Ow (some ⟨b63, 0, none⟩) (some b63) ([0#8] : List Byte).length 1 (lit ([0#8] : List Byte)) ([0#8] : List Byte) := ⟨.inr ⟨b63, rfl, rfl⟩, Nat.le_refl _, rfl, fun q _ => rfl⟩
   have h64 := St.pickT (C := [_, _, _, _, _, _, _, _]) h63 [1, 2, 3, 0, 4, 5, 6, 7] (by decide)
   simp only [pick, zfc, zfn, zgz, zgs, zca, zna] at h64
   obtain ⟨x_66, x_67, x_68, hr65, hR⟩ := hR
   refine Plan.call (vs := [.pointer (some ⟨b0_13, 0, none⟩), .slice (some ⟨b63, 0, none⟩) (([0#8] : List Byte).length) 1]) rfl FSha.call47 rfl (sha_Hash_Write_ok (iG3 := iG3 + 5) hG3 (by exact (ho63.bx 0 rfl)) hr65 h64) ?_
   rintro _ w69 ⟨rfl, h69⟩
   refine ⟨_, rfl, .inl ⟨PIn.keep PIn.nil h69, ?_⟩⟩
   refine Plan.nil ?_
   refine blockR_norm ?_
   have h70 := St.pickT (C := [_, _, _, _, _, _, _, _]) h69 [0, 1, 2, 4, 5, 6, 7] (by decide)
   simp only [pick, zfc, zfn, zgz, zgs, zca, zna] at h70
   exact iterR_norm ⟨_, hR, (zer (zer (zer zen))), h70⟩
  ·
   replace hR := ifF hR hc62
   refine W.condF (congrArg Value.bool (decide_eq_false hc62)) ?_
   refine W.exit (thenR_exit (iterR_exit (blockR_here ?_)))
   exact ⟨m50, m51, m52, (hx56 _ hR).symm, (zer (zer (zer zen))), h58⟩
 ·
  rintro ev71 wl71 ⟨y_m53, y_m54, y_m55, hy71, he71, h71⟩
  obtain ⟨ev71, rfl⟩ := he71.open
  cases hy71
  replace hR := hR056
  refine k24 _ _ ?_; clear k24
  refine W.seq_k fun _ k72 => W.seq_k fun _ k73 => ?_
  refine W.regionT [(0, true)] (by kernel_rfl) ?_
  refine Plan.move_int rfl rfl <| Plan.nil (k73 _ _ ?_); clear k73
  obtain ⟨m106, m107, m108, hI109, hR0109⟩ := hR
  refine W.cutN (fun e w => ∃ y_m106 : Nat → BitVec 32, ∃ y_m107 : Nat → BitVec 8, ∃ y_m108 : Int, (m106, m107, m108) = (y_m106, y_m107, y_m108) ∧ EnvHas e [(2, .pointer (some ⟨b6, 0, none⟩)), (3, .pointer (some ⟨b0_13, 0, none⟩))] ∧ St B w0 (⟨some b0_13, 0, 8, fun q => VU .u32 (y_m106 q), true⟩ :: ⟨some b0_13, 8, 64, fun q => VU .u8 (y_m107 q), true⟩ :: ⟨some b0_13, 72, 1, fun _ => .int .i64 y_m108, true⟩ :: ⟨some bh_1, 0, 8, fun q => VU .u32 (hstate2 q), true⟩ :: ⟨some bh_1, 8, 64, fun q => VU .u8 (hblock3 q), true⟩ :: ⟨some bh_1, 72, 1, fun _ => .int .i64 hn4, true⟩ :: ⟨some b6, 0, 32, fun q => VU .u8 ((fun _ => 0#8) q), true⟩ :: L) w) ?_ ?_
  ·
   refine W.block ?_
   refine W.iter hI109 (fun (s109 : (Nat × (Nat → BitVec 32) × (Nat → BitVec 8) × Int)) e w => EnvHas e [(2, .pointer (some ⟨b6, 0, none⟩)), (3, .pointer (some ⟨b0_13, 0, none⟩)), (4, VU .u64 ((8#64) * (BitVec.ofInt 64 hn4))), (29, VN s109.1)] ∧ St B w0 (⟨some b0_13, 0, 8, fun q => VU .u32 (s109.2.1 q), true⟩ :: ⟨some b0_13, 8, 64, fun q => VU .u8 (s109.2.2.1 q), true⟩ :: ⟨some b0_13, 72, 1, fun _ => .int .i64 s109.2.2.2, true⟩ :: ⟨some bh_1, 0, 8, fun q => VU .u32 (hstate2 q), true⟩ :: ⟨some bh_1, 8, 64, fun q => VU .u8 (hblock3 q), true⟩ :: ⟨some bh_1, 72, 1, fun _ => .int .i64 hn4, true⟩ :: ⟨some b6, 0, 32, fun q => VU .u8 ((fun _ => 0#8) q), true⟩ :: L) w) ⟨(zer (zer (zer (zer zen)))), h71⟩ ?_
   rintro ⟨t102, m103, m104, m105⟩ o109 hR hx109 ev110 wl110 ⟨he110, h110⟩
   obtain ⟨ev110, rfl⟩ := he110.open
   unfold sha_Hash_Sum_l1 at hR
   refine W.seq_k fun _ k111 => W.regionT [(0, true)] (by kernel_rfl) ?_
   refine Plan.cmpP (a := (((t102 : Nat) : Int) : Int)) (b := (8 : Int)) (p := t102 < 8) rfl rfl rfl rfl icmp_ltN <| Plan.nil (k111 _ _ ?_); clear k111
   refine W.seq_k fun _ k112 => ?_
   by_cases hc113 : t102 < 8
   ·
    replace hR := ifT hR hc113
    refine W.condT (congrArg Value.bool (decide_eq_true hc113)) ?_
    refine W.skip ?_
    refine k112 _ _ ?_; clear k112
    refine W.seq_k fun _ k114 => ?_
    refine W.block ?_
    refine W.seq_k fun _ k115 => W.regionT [(0, true), (1, true)] (by kernel_rfl) ?_
    refine Plan.move_int rfl rfl <| Plan.assign_int rfl rfl <| Plan.nil (k115 _ _ ?_); clear k115
    refine W.regionT [(0, true), (1, true), (2, true), (3, true), (4, true), (5, true), (6, true), (7, false), (8, false)] (by kernel_rfl) ?_
    refine Plan.move_ptr rfl rfl <| Plan.move_int rfl rfl <| Plan.move_int rfl rfl <| Plan.mulN (a := 8) (b := t102) rfl rfl rfl (by omega) <| Plan.subN (a := 56) (b := (8 * t102)) rfl rfl rfl (by omega) <| Plan.shrU .u64 (X := ((8#64) * (BitVec.ofInt 64 hn4))) (c := (56 - (8 * t102))) rfl rfl rfl <| Plan.convUU .u8 (X := (((8#64) * (BitVec.ofInt 64 hn4)) >>> (56 - (8 * t102)))) FSha.u5 FSha.some67 rfl rfl ?_
    refine Plan.buildSlice h110 (ps := [(1, fun q => VU .u8 (lit ([((((8#64) * (BitVec.ofInt 64 hn4)) >>> (56 - (8 * t102))).setWidth 8)] : List Byte) q))]) FSha.slu40 FSha.sz5 FSha.zv5 (by decide) (by decide) rfl rfl rfl (EffO.keep PIn.nil) fun b116 w116 hb116 h116 => ?_
    simp only [rngs, List.cons_append, List.nil_append] at h116
    have ho116 : Ow (some ⟨b116, 0, none⟩) (some b116) ([((((8#64) * (BitVec.ofInt 64 hn4)) >>> (56 - (8 * t102))).setWidth 8)] : List Byte).length 1 (lit ([((((8#64) * (BitVec.ofInt 64 hn4)) >>> (56 - (8 * t102))).setWidth 8)] : List Byte)) ([((((8#64) * (BitVec.ofInt 64 hn4)) >>> (56 - (8 * t102))).setWidth 8)] : List Byte) := ⟨.inr ⟨b116, rfl, rfl⟩, Nat.le_refl _, rfl, fun q _ => rfl⟩
    have h117 := St.pickT (C := [_, _, _, _, _, _, _, _]) h116 [1, 2, 3, 0, 4, 5, 6, 7] (by decide)
    simp only [pick, zfc, zfn, zgz, zgs, zca, zna] at h117
    obtain ⟨x_119, x_120, x_121, hr118, hR⟩ := hR
    refine Plan.call (vs := [.pointer (some ⟨b0_13, 0, none⟩), .slice (some ⟨b116, 0, none⟩) (([((((8#64) * (BitVec.ofInt 64 hn4)) >>> (56 - (8 * t102))).setWidth 8)] : List Byte).length) 1]) rfl FSha.call47 rfl (sha_Hash_Write_ok (iG3 := iG3 + 5) hG3 (by exact (ho116.bx 0 rfl)) hr118 h117) ?_
    rintro _ w122 ⟨rfl, h122⟩
    refine ⟨_, rfl, .inl ⟨PIn.keep PIn.nil h122, ?_⟩⟩
    refine Plan.nil ?_
    refine blockR_norm ?_
    refine k114 _ _ ?_; clear k114
    refine W.regionT [(0, true), (1, true)] (by kernel_rfl) ?_
    refine Plan.addN (a := t102) (b := 1) rfl rfl rfl (by omega) <| Plan.move_int rfl rfl <| Plan.nil ?_
    have h123 := St.pickT (C := [_, _, _, _, _, _, _, _]) h122 [0, 1, 2, 4, 5, 6, 7] (by decide)
    simp only [pick, zfc, zfn, zgz, zgs, zca, zna] at h123
    exact iterR_norm ⟨_, hR, (zer (zer (zer (zer zen)))), h123⟩
   ·
    replace hR := ifF hR hc113
    refine W.condF (congrArg Value.bool (decide_eq_false hc113)) ?_
    refine W.exit (thenR_exit (iterR_exit (blockR_here ?_)))
    exact ⟨m103, m104, m105, (hx109 _ hR).symm, (zer (zer zen)), h110⟩
  ·
   rintro ev124 wl124 ⟨y_m106, y_m107, y_m108, hy124, he124, h124⟩
   obtain ⟨ev124, rfl⟩ := he124.open
   cases hy124
   replace hR := hR0109
   refine k72 _ _ ?_; clear k72
   refine W.seq_k fun _ k125 => W.regionT [(0, false)] (by kernel_rfl) ?_
   refine Plan.alloc h124 rfl FSha.z57 PIn.nil fun b126 w126 hb126 h126 => ?_
   simp only [rngs, Nat.zero_add, Nat.reduceAdd, zca, zna] at h126
   refine Plan.nil (k125 _ _ ?_); clear k125
   refine W.seq_k fun _ k127 => W.seq_k fun _ k128 => ?_
   refine W.regionT [(0, true), (1, true), (2, true), (3, true), (4, true)] (by kernel_rfl) ?_
   refine Plan.move_ptr rfl rfl <| Plan.nilCheck rfl rfl <| Plan.fieldAddr0 FSha.fld120_0 rfl rfl <| Plan.loadA1 h126 1 rfl rfl rfl FSha.agg118 <| Plan.move_int rfl rfl <| Plan.nil (k128 _ _ ?_); clear k128
   obtain ⟨m151, hI152, hR0152⟩ := hR
   refine W.cutN (fun e w => ∃ y_m151 : Nat → BitVec 8, m151 = y_m151 ∧ EnvHas e [(2, .pointer (some ⟨b6, 0, none⟩)), (6, .pointer (some ⟨b126, 0, none⟩))] ∧ St B w0 (⟨some b126, 0, 32, fun q => VU .u8 (y_m151 q), true⟩ :: ⟨some bh_1, 0, 8, fun q => VU .u32 (hstate2 q), true⟩ :: ⟨some bh_1, 8, 64, fun q => VU .u8 (hblock3 q), true⟩ :: ⟨some bh_1, 72, 1, fun _ => .int .i64 hn4, true⟩ :: ⟨some b6, 0, 32, fun q => VU .u8 ((fun _ => 0#8) q), true⟩ :: L) w) ?_ ?_
   ·
    refine W.block ?_
    have h153 := St.pickT (C := [_, _, _, _, _, _, _, _]) h126 [0, 4, 5, 6, 7] (by decide)
    simp only [pick, zfc, zfn, zgz, zgs, zca, zna] at h153
    refine W.iter hI152 (fun (s152 : (Nat × (Nat → BitVec 8))) e w => EnvHas e [(2, .pointer (some ⟨b6, 0, none⟩)), (6, .pointer (some ⟨b126, 0, none⟩)), (45, AG [(8, fun q => VU .u32 (m106 q))]), (46, VN s152.1)] ∧ St B w0 (⟨some b126, 0, 32, fun q => VU .u8 (s152.2 q), true⟩ :: ⟨some bh_1, 0, 8, fun q => VU .u32 (hstate2 q), true⟩ :: ⟨some bh_1, 8, 64, fun q => VU .u8 (hblock3 q), true⟩ :: ⟨some bh_1, 72, 1, fun _ => .int .i64 hn4, true⟩ :: ⟨some b6, 0, 32, fun q => VU .u8 ((fun _ => 0#8) q), true⟩ :: L) w) ⟨(zer (zer (zer (zer zen)))), h153⟩ ?_
    rintro ⟨t149, m150⟩ o152 hR hx152 ev154 wl154 ⟨he154, h154⟩
    obtain ⟨ev154, rfl⟩ := he154.open
    unfold sha_Hash_Sum_l2 at hR
    refine W.seq_k fun _ k155 => W.regionT [(0, true)] (by kernel_rfl) ?_
    refine Plan.cmpP (a := (((t149 : Nat) : Int) : Int)) (b := (8 : Int)) (p := t149 < 8) rfl rfl rfl rfl icmp_ltN <| Plan.nil (k155 _ _ ?_); clear k155
    refine W.seq_k fun _ k156 => ?_
    by_cases hc157 : t149 < 8
    ·
     replace hR := ifT hR hc157
     refine W.condT (congrArg Value.bool (decide_eq_true hc157)) ?_
     refine W.skip ?_
     refine k156 _ _ ?_; clear k156
     refine W.seq_k fun _ k158 => ?_
     refine W.block ?_
     refine W.seq_k fun _ k159 => W.regionT [(0, true), (1, true), (2, true), (3, true)] (by kernel_rfl) ?_
     refine Plan.move_int rfl rfl <| Plan.indexA (j := t149) FSha.isarr118 FSha.sz26 FSha.sc26 rfl rfl rfl (by omega) (by decide) <| Plan.assign_int rfl rfl <| Plan.assign_int rfl rfl <| Plan.nil (k159 _ _ ?_); clear k159
     refine W.regionT [(0, true), (1, true), (2, true), (3, true), (4, true), (5, true), (6, true), (7, true), (8, true), (9, true), (10, true), (11, true), (12, true), (13, true), (14, true), (15, true), (16, true), (17, true), (18, true), (19, true), (20, true), (21, true), (22, true), (23, false), (24, true), (25, false), (26, true), (27, false), (28, true), (29, false)] (by kernel_rfl) ?_
     refine Plan.move_int rfl rfl <| Plan.mulN (a := 4) (b := t149) rfl rfl rfl (by omega) <| Plan.move_int rfl rfl <| Plan.mulN (a := 4) (b := t149) rfl rfl rfl (by omega) <| Plan.addN (a := (4 * t149)) (b := 1) rfl rfl rfl (by omega) <| Plan.move_int rfl rfl <| Plan.mulN (a := 4) (b := t149) rfl rfl rfl (by omega) <| Plan.addN (a := (4 * t149)) (b := 2) rfl rfl rfl (by omega) ?_
     refine Plan.move_int rfl rfl <| Plan.mulN (a := 4) (b := t149) rfl rfl rfl (by omega) <| Plan.addN (a := (4 * t149)) (b := 3) rfl rfl rfl (by omega) <| Plan.move_int rfl rfl <| Plan.shrU .u32 (X := (m106 t149)) (c := 24) rfl rfl rfl <| Plan.convUU .u8 (X := ((m106 t149) >>> 24)) FSha.u5 FSha.some26 rfl rfl <| Plan.move_int rfl rfl <| Plan.shrU .u32 (X := (m106 t149)) (c := 16) rfl rfl rfl ?_
     refine Plan.convUU .u8 (X := ((m106 t149) >>> 16)) FSha.u5 FSha.some26 rfl rfl <| Plan.move_int rfl rfl <| Plan.shrU .u32 (X := (m106 t149)) (c := 8) rfl rfl rfl <| Plan.convUU .u8 (X := ((m106 t149) >>> 8)) FSha.u5 FSha.some26 rfl rfl <| Plan.move_int rfl rfl <| Plan.convUU .u8 (X := (m106 t149)) FSha.u5 FSha.some26 rfl rfl <| Plan.idxArr1 (j := (4 * t149)) FSha.arr57 rfl rfl rfl (by omega) ?_
     refine Plan.storeU (j := (4 * t149)) (X := (((m106 t149) >>> 24).setWidth 8)) h154 0 rfl rfl rfl rfl (by omega) FSha.sz5 rfl fun w160 h160 => ?_
     simp only [zca, zna, zsz, zss] at h160
     refine Plan.idxArr1 (j := ((4 * t149) + 1)) FSha.arr57 rfl rfl rfl (by omega) ?_
     refine Plan.storeU (j := ((4 * t149) + 1)) (X := (((m106 t149) >>> 16).setWidth 8)) h160 0 rfl rfl rfl rfl (by omega) FSha.sz5 rfl fun w161 h161 => ?_
     simp only [zca, zna, zsz, zss] at h161
     refine Plan.idxArr1 (j := ((4 * t149) + 2)) FSha.arr57 rfl rfl rfl (by omega) ?_
     refine Plan.storeU (j := ((4 * t149) + 2)) (X := (((m106 t149) >>> 8).setWidth 8)) h161 0 rfl rfl rfl rfl (by omega) FSha.sz5 rfl fun w162 h162 => ?_
     simp only [zca, zna, zsz, zss] at h162
     refine Plan.idxArr1 (j := ((4 * t149) + 3)) FSha.arr57 rfl rfl rfl (by omega) ?_
     refine Plan.storeU (j := ((4 * t149) + 3)) (X := ((m106 t149).setWidth 8)) h162 0 rfl rfl rfl rfl (by omega) FSha.sz5 rfl fun w163 h163 => ?_
     simp only [zca, zna, zsz, zss] at h163
     refine Plan.nil ?_
     refine blockR_norm ?_
     refine k158 _ _ ?_; clear k158
     refine W.regionT [(0, true), (1, true)] (by kernel_rfl) ?_
     refine Plan.addN (a := t149) (b := 1) rfl rfl rfl (by omega) <| Plan.move_int rfl rfl <| Plan.nil ?_
     exact iterR_norm ⟨_, hR, (zer (zer (zer (zer zen)))), h163⟩
    ·
     replace hR := ifF hR hc157
     refine W.condF (congrArg Value.bool (decide_eq_false hc157)) ?_
     refine W.exit (thenR_exit (iterR_exit (blockR_here ?_)))
     exact ⟨m150, (hx152 _ hR).symm, (zer (zer zen)), h154⟩
   ·
    rintro ev164 wl164 ⟨y_m151, hy164, he164, h164⟩
    obtain ⟨ev164, rfl⟩ := he164.open
    subst hy164
    replace hR := hR0152
    refine k127 _ _ ?_; clear k127
    refine W.seq_k fun _ k165 => W.regionT [(0, true), (1, false)] (by kernel_rfl) ?_
    refine Plan.loadA1 h164 0 rfl rfl rfl FSha.agg57 ?_
    refine Plan.storeA (f' := fun q => VU .u8 (m151 q)) h164 4 rfl rfl rfl rfl (fun _ _ => rfl) FSha.sz57 rfl fun w166 h166 => ?_
    simp only [zca, zna, zsz, zss] at h166
    refine Plan.nil (k165 _ _ ?_); clear k165
    refine W.ret (finR_ret ?_)
    have h167 := St.pickT (C := [_, _, _, _, _]) h166 [1, 2, 3] (by decide)
    simp only [pick, zfc, zfn, zgz, zgs, zca, zna] at h167
    subst r
    refine RetOk.mk (.agg h166 rfl (.cons 4 rfl .nil) FSha.agg57 .nil) ?_
    exact ⟨rfl, h167⟩
theorem sha_Sum_ok {B : Nat} {w0 w : World} {L : List Rg} {iG1 : Nat} (hG1 : L[iG1]? = some ⟨some 1, 0, 8, fun q => VU .u32 (H256 q), false⟩) {iG3 : Nat} (hG3 : L[iG3]? = some ⟨some 3, 0, 64, fun q => VU .u32 (K256 q), false⟩) {parts1 : List (List Byte)} {aparts1 : Option Addr} {nparts1 cparts1 iparts1 : Nat} (hparts1 : Bss L iparts1 aparts1 nparts1 cparts1 parts1) {r : (Nat → BitVec 8)} (hR : sha_Sum parts1 r) (HST : St B w0 (L) w) :
  Calls Tryd.prog 50 #[.slice aparts1 nparts1 cparts1] w fun e w' => e = .returned (AG [(32, fun q => VU .u8 (r q))]) ∧ St B w0 (L) w' := by
 refine W.enter 19 Tryd.func50 rfl rfl rfl ?_
 unfold sha_Sum at hR
 have eparts1 := hparts1.hl; subst eparts1
 refine W.seq_k fun _ k2 => W.regionT [(0, false)] (by kernel_rfl) ?_
 refine Plan.alloc HST rfl FSha.z57 PIn.nil fun b3 w3 hb3 h3 => ?_
 simp only [rngs, Nat.zero_add, Nat.reduceAdd, zca, zna] at h3
 refine Plan.nil (k2 _ _ ?_); clear k2
 refine W.seq_k fun _ k4 => W.regionT [(0, false), (1, true)] (by kernel_rfl) ?_
 obtain ⟨x_6, x_7, x_8, hr5, hR⟩ := hR
 refine Plan.call (vs := []) rfl FSha.call46 rfl (sha_New_ok (iG1 := iG1 + 1) hG1 hr5 h3) ?_
 rintro _ w10 ⟨b0_9, rfl, h10⟩
 refine ⟨_, rfl, .inl ⟨PIn.keep PIn.nil h10, ?_⟩⟩
 refine Plan.assign_ptr rfl rfl <| Plan.nil (k4 _ _ ?_); clear k4
 refine W.seq_k fun _ k11 => W.seq_k fun _ k12 => ?_
 refine W.regionT [(0, true), (1, true), (2, true)] (by kernel_rfl) ?_
 refine Plan.move_slice rfl rfl <| Plan.len FSha.isl102 rfl rfl <| Plan.move_int rfl rfl <| Plan.nil (k12 _ _ ?_); clear k12
 obtain ⟨m46, m47, m48, hI49, hR049⟩ := hR
 refine W.cutN (fun e w => ∃ y_m46 : Nat → BitVec 32, ∃ y_m47 : Nat → BitVec 8, ∃ y_m48 : Int, (m46, m47, m48) = (y_m46, y_m47, y_m48) ∧ EnvHas e [(2, .pointer (some ⟨b3, 0, none⟩)), (3, .pointer (some ⟨b0_9, 0, none⟩))] ∧ St B w0 (⟨some b0_9, 0, 8, fun q => VU .u32 (y_m46 q), true⟩ :: ⟨some b0_9, 8, 64, fun q => VU .u8 (y_m47 q), true⟩ :: ⟨some b0_9, 72, 1, fun _ => .int .i64 y_m48, true⟩ :: ⟨some b3, 0, 32, fun q => VU .u8 ((fun _ => 0#8) q), true⟩ :: L) w) ?_ ?_
 ·
  refine W.block ?_
  refine W.iter hI49 (fun (s49 : (Nat × (Nat → BitVec 32) × (Nat → BitVec 8) × Int)) e w => EnvHas e [(2, .pointer (some ⟨b3, 0, none⟩)), (3, .pointer (some ⟨b0_9, 0, none⟩)), (7, .slice aparts1 parts1.length cparts1), (8, VN parts1.length), (9, VN s49.1)] ∧ St B w0 (⟨some b0_9, 0, 8, fun q => VU .u32 (s49.2.1 q), true⟩ :: ⟨some b0_9, 8, 64, fun q => VU .u8 (s49.2.2.1 q), true⟩ :: ⟨some b0_9, 72, 1, fun _ => .int .i64 s49.2.2.2, true⟩ :: ⟨some b3, 0, 32, fun q => VU .u8 ((fun _ => 0#8) q), true⟩ :: L) w) ⟨(zer (zer (zer (zer (zer zen))))), h10⟩ ?_
  rintro ⟨t42, m43, m44, m45⟩ o49 hR hx49 ev50 wl50 ⟨he50, h50⟩
  obtain ⟨ev50, rfl⟩ := he50.open
  unfold sha_Sum_l0 at hR
  refine W.seq_k fun _ k51 => W.regionT [(0, true)] (by kernel_rfl) ?_
  refine Plan.cmpP (a := (((t42 : Nat) : Int) : Int)) (b := (((parts1.length : Nat) : Int) : Int)) (p := t42 < parts1.length) rfl rfl rfl rfl icmp_ltN <| Plan.nil (k51 _ _ ?_); clear k51
  refine W.seq_k fun _ k52 => ?_
  by_cases hc53 : t42 < parts1.length
  ·
   replace hR := ifT hR hc53
   refine W.condT (congrArg Value.bool (decide_eq_true hc53)) ?_
   refine W.skip ?_
   refine k52 _ _ ?_; clear k52
   refine W.seq_k fun _ k54 => ?_
   refine W.block ?_
   refine W.seq_k fun _ k55 => W.regionT [(0, true), (1, true), (2, true)] (by kernel_rfl) ?_
   obtain ⟨hc56, hR⟩ := hR
   refine Plan.idxBss (j := t42) hparts1 FSha.sl102 rfl rfl rfl hc56 ?_
   refine Plan.loadBss (D := [_, _, _, _]) (j := t42) h50 hparts1 rfl rfl hc56 FSha.sc40 fun r57 i57 a57 c57 hr57 hv57 => ?_
   refine Plan.assign_slice rfl rfl <| Plan.nil (k55 _ _ ?_); clear k55
   refine W.regionT [(0, true), (1, true), (2, false)] (by kernel_rfl) ?_
   refine Plan.move_ptr rfl rfl <| Plan.move_slice rfl rfl ?_
   obtain ⟨x_59, x_60, x_61, hr58, hR⟩ := hR
   refine Plan.call (vs := [.pointer (some ⟨b0_9, 0, none⟩), .slice a57 ((parts1.getD t42 []).length) c57]) rfl FSha.call47 rfl (sha_Hash_Write_ok (iG3 := iG3 + 1) hG3 (hv57.app [_]) hr58 h50) ?_
   rintro _ w62 ⟨rfl, h62⟩
   refine ⟨_, rfl, .inl ⟨PIn.keep PIn.nil h62, ?_⟩⟩
   refine Plan.nil ?_
   refine blockR_norm ?_
   refine k54 _ _ ?_; clear k54
   refine W.regionT [(0, true), (1, true)] (by kernel_rfl) ?_
   obtain ⟨hc63, hR⟩ := hR
   refine Plan.addN (a := t42) (b := 1) rfl rfl rfl (by omega) <| Plan.move_int rfl rfl <| Plan.nil ?_
   exact iterR_norm ⟨_, hR, (zer (zer (zer (zer (zer zen))))), h62⟩
  ·
   replace hR := ifF hR hc53
   refine W.condF (congrArg Value.bool (decide_eq_false hc53)) ?_
   refine W.exit (thenR_exit (iterR_exit (blockR_here ?_)))
   exact ⟨m43, m44, m45, (hx49 _ hR).symm, (zer (zer zen)), h50⟩
 ·
  rintro ev64 wl64 ⟨y_m46, y_m47, y_m48, hy64, he64, h64⟩
  obtain ⟨ev64, rfl⟩ := he64.open
  cases hy64
  replace hR := hR049
  refine k11 _ _ ?_; clear k11
  refine W.seq_k fun _ k65 => W.regionT [(0, true), (1, false), (2, false)] (by kernel_rfl) ?_
  refine Plan.move_ptr rfl rfl ?_
  obtain ⟨x_67, hr66, hR⟩ := hR
  refine Plan.call (vs := [.pointer (some ⟨b0_9, 0, none⟩)]) rfl FSha.call49 rfl (sha_Hash_Sum_ok (iG3 := iG3 + 1) hG3 hr66 h64) ?_
  rintro _ w68 ⟨rfl, h68⟩
  refine ⟨_, rfl, .inl ⟨PIn.keep PIn.nil h68, ?_⟩⟩
  refine Plan.storeA (f' := fun q => VU .u8 (x_67 q)) h68 3 rfl rfl rfl rfl (fun _ _ => rfl) FSha.sz57 rfl fun w69 h69 => ?_
  simp only [zca, zna, zsz, zss] at h69
  refine Plan.nil (k65 _ _ ?_); clear k65
  refine W.ret (finR_ret ?_)
  have h70 := St.pickT (C := [_, _, _, _]) h69 [] (by decide)
  simp only [pick, zfc, zfn, zgz, zgs, zca, zna] at h70
  subst r
  refine RetOk.mk (.agg h69 rfl (.cons 3 rfl .nil) FSha.agg57 .nil) ?_
  exact ⟨rfl, h70⟩
end Go.Proofs.YtjclppnbbpnfnaaDoor
