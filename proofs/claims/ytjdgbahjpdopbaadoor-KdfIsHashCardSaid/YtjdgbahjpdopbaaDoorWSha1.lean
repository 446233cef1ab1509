/-
  WALKS, printed by this session's own generator (gen.py).
-/
import Derived.Test.YtjdgbahjpdopbaaDoorProg
import Derived.Test.YtjdgbahjpdopbaaDoorShaM
namespace Go.Proofs.YtjdgbahjpdopbaaDoor
set_option linter.unusedSimpArgs false
set_option linter.unusedVariables false
set_option linter.unusedSectionVars false
open Go Go.LW
theorem FS1.u25 : Tryd.prog.underlying 25 = some (.int .u64) := by kernel_rfl
theorem FS1.some3 : (Tryd.prog.underlying 3).isSome = true := by kernel_rfl
theorem FS1.call66 : callB Tryd.prog 66 = true := by kernel_rfl
theorem FS1.arr27 : arrB Tryd.prog 27 8 1 = true := by kernel_rfl
theorem FS1.z27 : zeroIs Tryd.prog 27 [(8, fun _ => VU .u32 0#32)] := zeroIs_agg (by kernel_rfl)
theorem FS1.z93 : zeroIs Tryd.prog 93 [(64, fun _ => VU .u32 0#32)] := zeroIs_agg (by kernel_rfl)
theorem FS1.mixed : Tryd.prog.follows .mixedOrders = true := by kernel_rfl
theorem FS1.arr30 : arrB Tryd.prog 30 64 1 = true := by kernel_rfl
theorem FS1.sc5 : scalarT Tryd.prog 5 = true := by kernel_rfl
theorem FS1.u26 : Tryd.prog.underlying 26 = some (.int .u32) := by kernel_rfl
theorem FS1.some5 : (Tryd.prog.underlying 5).isSome = true := by kernel_rfl
theorem FS1.arr93 : arrB Tryd.prog 93 64 1 = true := by kernel_rfl
theorem FS1.sz26 : szT Tryd.prog 26 1 = true := by kernel_rfl
theorem FS1.sc26 : scalarT Tryd.prog 26 = true := by kernel_rfl
theorem FS1.call51 : callB Tryd.prog 51 = true := by kernel_rfl
theorem FS1.isarr27 : Tryd.prog.underlying 27 = some (.array 8 26) := by kernel_rfl
theorem FS1.agg27 : aggT Tryd.prog 27 8 = true := by kernel_rfl
theorem FS1.sz27 : szT Tryd.prog 27 8 = true := by kernel_rfl
theorem FS1.isl22 : ∃ el, Tryd.prog.underlying 22 = some (.slice el) := ⟨5, by kernel_rfl⟩
theorem FS1.fld96_1 : fieldB Tryd.prog 96 1 8 = true := by kernel_rfl
theorem FS1.fld96_2 : fieldB Tryd.prog 96 2 72 = true := by kernel_rfl
theorem FS1.sc3 : scalarT Tryd.prog 3 = true := by kernel_rfl
theorem FS1.sl22 : slB Tryd.prog 22 1 = true := by kernel_rfl
theorem FS1.sz3 : szT Tryd.prog 3 1 = true := by kernel_rfl
theorem FS1.fld96_0 : fieldB Tryd.prog 96 0 0 = true := by kernel_rfl
theorem FS1.agg30 : aggT Tryd.prog 30 64 = true := by kernel_rfl
theorem FS1.call20 : callB Tryd.prog 20 = true := by kernel_rfl

theorem rotA : ∀ c : Nat, c < 32 → 0 < c → (BitVec.ofInt 64 (-(c : Int)) &&& 31#64).toNat = 32 - c := by decide
theorem rotB : ∀ c : Nat, c < 32 → 0 < c → (32#64 - (BitVec.ofInt 64 (-(c : Int)) &&& 31#64)).toNat = c := by decide

theorem rot_spec (X : BitVec 32) (c : Nat) (hc : 0 < c ∧ c < 32) (w : World) :
    Calls Tryd.prog 66 #[VU .u32 X, .int .i64 (-(c : Int))] w fun e w' => e = .returned (VU .u32 (X.rotateRight c)) ∧ w' = w := by
  refine W.enter 17 Tryd.func66 rfl rfl rfl ?_
  refine W.seq_k fun K1 hK1 => ?_
  refine W.regionT [(0, true)] (by kernel_rfl) ?_
  refine Plan.assign_int rfl rfl ?_
  refine Plan.nil ?_
  refine hK1 _ _ ?_; clear hK1
  refine W.seq_k fun K2 hK2 => ?_
  refine W.regionT [(0, true), (1, true), (2, true), (3, true)] (by kernel_rfl) ?_
  refine Plan.move_int rfl rfl ?_
  refine Plan.convIU .u64 FS1.u25 FS1.some3 rfl rfl ?_
  refine Plan.andU .u64 (Y := 31#64) rfl rfl rfl ?_
  refine Plan.assign_int rfl rfl ?_
  refine Plan.nil ?_
  refine hK2 _ _ ?_; clear hK2
  refine W.seq_k fun K3 hK3 => ?_
  refine W.regionT [(0, true), (1, true), (2, true), (3, true), (4, true), (5, true), (6, true), (7, true), (8, true)] (by kernel_rfl) ?_
  refine Plan.move_int rfl rfl ?_
  refine Plan.move_int rfl rfl ?_
  refine Plan.shlU .u32 rfl rfl rfl ?_
  refine Plan.move_int rfl rfl ?_
  refine Plan.move_int rfl rfl ?_
  refine Plan.subU .u64 (X := 32#64) rfl rfl rfl ?_
  refine Plan.shrU .u32 rfl rfl rfl ?_
  refine Plan.orU .u32 rfl rfl rfl ?_
  refine Plan.assign_int rfl rfl ?_
  refine Plan.nil ?_
  refine hK3 _ _ ?_; clear hK3
  refine W.ret (finR_ret ?_)
  refine RetOk.mk (.tmp_int rfl .nil) ?_
  refine ⟨?_, rfl⟩
  show Ending.returned (VU .u32 _) = _
  have h1 : (BitVec.ofInt 64 (-(c : Int)) &&& 31#64).toNat = 32 - c := rotA c hc.2 hc.1
  have h2 : (32#64 - (BitVec.ofInt 64 (-(c : Int)) &&& 31#64)).toNat = c := rotB c hc.2 hc.1
  rw [h1, h2, BitVec.or_comm]
  have h3 : X.rotateRight c = X >>> c ||| X <<< (32 - c) := by unfold BitVec.rotateRight BitVec.rotateRightAux; rw [Nat.mod_eq_of_lt hc.2]
  rw [h3]


theorem right_spec (X : BitVec 32) (c : Nat) (hc : 0 < c ∧ c < 32) (w : World) :
    Calls Tryd.prog 51 #[VN c, VU .u32 X] w fun e w' => e = .returned (VU .u32 (X.rotateRight c)) ∧ w' = w := by
  refine W.enter 9 Tryd.func51 rfl rfl rfl ?_
  refine W.seq_k fun K1 hK1 => ?_
  refine W.regionT [(0, true)] (by kernel_rfl) ?_
  refine Plan.assign_int rfl rfl ?_
  refine Plan.nil ?_
  refine hK1 _ _ ?_; clear hK1
  refine W.seq_k fun K2 hK2 => ?_
  refine W.regionT [(0, true), (1, true), (2, true), (3, false), (4, true)] (by kernel_rfl) ?_
  refine Plan.move_int rfl rfl ?_
  refine Plan.move_int rfl rfl ?_
  refine Plan.negI rfl rfl (by omega) ?_
  refine Plan.call0 rfl FS1.call66 rfl (rot_spec X c hc _) ?_
  refine Plan.assign_int rfl rfl ?_
  refine Plan.nil ?_
  refine hK2 _ _ ?_; clear hK2
  refine W.ret (finR_ret ?_)
  refine RetOk.mk (.tmp_int rfl .nil) ?_
  exact ⟨rfl, rfl⟩


set_option maxRecDepth 8000 in
set_option maxHeartbeats 1000000 in
theorem compress_spec {B : Nat} {w0 w : World} {L : List Rg} {iG : Nat} (KK st : Nat → BitVec 32) (blk : Nat → BitVec 8) (h : St B w0 L w) (hG : L[iG]? = some ⟨some 0, 0, 64, fun q => VU .u32 (KK q), false⟩) :
    Calls Tryd.prog 20 #[AG [(8, fun q => VU .u32 (st q))], AG [(64, fun q => VU .u8 (blk q))]] w fun e w' => e = .returned (AG [(8, fun q => VU .u32 (compress KK st blk q))]) ∧ St B w0 L w' := by
  refine W.enter 199 Tryd.func20 rfl rfl rfl ?_
  refine W.seq_k fun K1 hK1 => ?_
  refine W.regionT [(0, false), (1, false), (2, false)] (by kernel_rfl) ?_
  refine Plan.boxA h rfl rfl PIn.nil fun b1 w1 hb1 h1 => ?_
  simp only [rngs, Nat.zero_add, Nat.reduceAdd, List.cons_append, List.nil_append] at h1
  refine Plan.boxA h1 rfl rfl PIn.nil fun b2 w2 hb2 h2 => ?_
  simp only [rngs, Nat.zero_add, Nat.reduceAdd, List.cons_append, List.nil_append] at h2
  refine Plan.alloc h2 rfl FS1.z27 PIn.nil fun b3 w3 hb3 h3 => ?_
  simp only [rngs, Nat.zero_add, Nat.reduceAdd, List.cons_append, List.nil_append] at h3
  refine Plan.nil ?_
  refine hK1 _ _ ?_; clear hK1
  refine W.seq_k fun K2 hK2 => ?_
  refine W.regionT [(0, false)] (by kernel_rfl) ?_
  refine Plan.alloc h3 rfl FS1.z93 PIn.nil fun b4 w4 hb4 h4 => ?_
  simp only [rngs, Nat.zero_add, Nat.reduceAdd, List.cons_append, List.nil_append] at h4
  refine Plan.nil ?_
  refine hK2 _ _ ?_; clear hK2
  refine W.seq_k fun K3 hK3 => ?_
  refine W.seq_k fun K4 hK4 => ?_
  refine W.regionT [(0, true)] (by kernel_rfl) ?_
  refine Plan.move_int rfl rfl ?_
  refine Plan.nil ?_
  refine hK4 _ _ ?_; clear hK4
  refine W.block ?_
  refine W.loop (fun mR e w => ∃ t : Nat, mR = 16 - t ∧ (t ≤ 16) ∧ EnvHas e [(23, VN t), (2, .pointer (some ⟨b1, 0, none⟩)), (3, .pointer (some ⟨b2, 0, none⟩)), (4, .pointer (some ⟨b3, 0, none⟩)), (5, .pointer (some ⟨b4, 0, none⟩))] ∧ St B w0 (⟨some b4, 0, 64, fun q => VU .u32 (wbeg blk t q), true⟩ :: ⟨some b3, 0, 8, fun _ => VU .u32 0#32, true⟩ :: ⟨some b2, 0, 64, fun q => VU .u8 (blk q), true⟩ :: ⟨some b1, 0, 8, fun q => VU .u32 (st q), true⟩ :: L) w) (_) ⟨0, rfl, by omega, (EnvHas.cons rfl (EnvHas.cons rfl (EnvHas.cons rfl (EnvHas.cons rfl (EnvHas.cons rfl EnvHas.nil))))), h4⟩ ?_
  rintro _ ev5 wl5 ⟨t, rfl, ht, he5, h5⟩
  obtain ⟨ev5, rfl⟩ := he5.open
  refine W.seq_k fun K5 hK5 => ?_
  refine W.regionT [(0, true)] (by kernel_rfl) ?_
  refine Plan.ltS rfl rfl rfl ?_ ?_
  ·
    intro hc6
    refine Plan.nil ?_
    refine hK5 _ _ ?_; clear hK5
    refine W.seq_k fun K6 hK6 => ?_
    refine W.condT rfl ?_
    refine W.skip ?_
    refine hK6 _ _ ?_; clear hK6
    refine W.seq_k fun K7 hK7 => ?_
    refine W.block ?_
    refine W.seq_k fun K8 hK8 => ?_
    refine W.regionT [(0, true), (1, true)] (by kernel_rfl) ?_
    refine Plan.move_int rfl rfl ?_
    refine Plan.assign_int rfl rfl ?_
    refine Plan.nil ?_
    refine hK8 _ _ ?_; clear hK8
    refine W.regionD FS1.mixed [(0, true), (1, true), (2, true), (3, true), (4, true), (5, true), (6, true), (7, true), (8, true), (9, true), (10, true), (11, true), (12, true), (13, true), (14, true), (15, true), (16, true), (17, true), (18, true), (19, true), (20, true), (21, true), (22, true), (23, true), (24, true), (25, true), (26, true), (27, true), (28, true), (29, true), (30, true), (31, false)] (by kernel_rfl) ?_
    have h7 := h5.drew
    refine Plan.move_int rfl rfl ?_
    refine Plan.move_int rfl rfl ?_
    refine Plan.mulN (a := 4) rfl rfl rfl (by omega) ?_
    refine Plan.idxArr1 FS1.arr30 rfl rfl rfl (by omega) ?_
    refine Plan.load1 h7 2 rfl rfl rfl (by omega) FS1.sc5 ?_
    refine Plan.convUU .u32 FS1.u26 FS1.some5 rfl rfl ?_
    refine Plan.shlU .u32 (c := 24) rfl rfl rfl ?_
    refine Plan.move_int rfl rfl ?_
    refine Plan.mulN (a := 4) rfl rfl rfl (by omega) ?_
    refine Plan.addN (b := 1) rfl rfl rfl (by omega) ?_
    refine Plan.idxArr1 FS1.arr30 rfl rfl rfl (by omega) ?_
    refine Plan.load1 h7 2 rfl rfl rfl (by omega) FS1.sc5 ?_
    refine Plan.convUU .u32 FS1.u26 FS1.some5 rfl rfl ?_
    refine Plan.shlU .u32 (c := 16) rfl rfl rfl ?_
    refine Plan.orU .u32 rfl rfl rfl ?_
    refine Plan.move_int rfl rfl ?_
    refine Plan.mulN (a := 4) rfl rfl rfl (by omega) ?_
    refine Plan.addN (b := 2) rfl rfl rfl (by omega) ?_
    refine Plan.idxArr1 FS1.arr30 rfl rfl rfl (by omega) ?_
    refine Plan.load1 h7 2 rfl rfl rfl (by omega) FS1.sc5 ?_
    refine Plan.convUU .u32 FS1.u26 FS1.some5 rfl rfl ?_
    refine Plan.shlU .u32 (c := 8) rfl rfl rfl ?_
    refine Plan.orU .u32 rfl rfl rfl ?_
    refine Plan.move_int rfl rfl ?_
    refine Plan.mulN (a := 4) rfl rfl rfl (by omega) ?_
    refine Plan.addN (b := 3) rfl rfl rfl (by omega) ?_
    refine Plan.idxArr1 FS1.arr30 rfl rfl rfl (by omega) ?_
    refine Plan.load1 h7 2 rfl rfl rfl (by omega) FS1.sc5 ?_
    refine Plan.convUU .u32 FS1.u26 FS1.some5 rfl rfl ?_
    refine Plan.orU .u32 rfl rfl rfl ?_
    refine Plan.idxArr1 FS1.arr93 rfl rfl rfl (by omega) ?_
    refine Plan.storeU h7 0 rfl rfl rfl rfl (by omega) FS1.sz26 rfl fun w8 h8 => ?_
    simp only [List.set_cons_zero, List.set_cons_succ] at h8
    refine Plan.nil ?_
    refine blockR_norm ?_
    refine hK7 _ _ ?_; clear hK7
    refine W.regionT [(0, true), (1, true)] (by kernel_rfl) ?_
    refine Plan.addN (b := 1) rfl rfl rfl (by omega) ?_
    refine Plan.move_int rfl rfl ?_
    refine Plan.nil ?_
    refine thenR_norm ?_
    refine ⟨_, ?_, t + 1, rfl, by omega, (EnvHas.cons rfl (EnvHas.cons rfl (EnvHas.cons rfl (EnvHas.cons rfl (EnvHas.cons rfl EnvHas.nil))))), h8⟩
    omega
  ·
    intro hc9
    obtain rfl : t = 16 := by omega
    refine Plan.nil ?_
    refine hK5 _ _ ?_; clear hK5
    refine W.seq_k fun K9 hK9 => ?_
    refine W.condF rfl ?_
    refine W.exit (thenR_exit (thenR_exit (blockR_here ?_)))
    refine hK3 _ _ ?_; clear hK3
    refine W.seq_k fun K10 hK10 => ?_
    refine W.seq_k fun K11 hK11 => ?_
    refine W.regionT [(0, true)] (by kernel_rfl) ?_
    refine Plan.assign_int rfl rfl ?_
    refine Plan.nil ?_
    refine hK11 _ _ ?_; clear hK11
    refine W.block ?_
    refine W.loop (fun mR e w => ∃ k : Nat, mR = 48 - k ∧ (k ≤ 48) ∧ EnvHas e [(7, VN (16 + k)), (2, .pointer (some ⟨b1, 0, none⟩)), (3, .pointer (some ⟨b2, 0, none⟩)), (4, .pointer (some ⟨b3, 0, none⟩)), (5, .pointer (some ⟨b4, 0, none⟩))] ∧ St B w0 (⟨some b4, 0, 64, fun q => VU .u32 (wext blk k q), true⟩ :: ⟨some b3, 0, 8, fun _ => VU .u32 0#32, true⟩ :: ⟨some b2, 0, 64, fun q => VU .u8 (blk q), true⟩ :: ⟨some b1, 0, 8, fun q => VU .u32 (st q), true⟩ :: L) w) (_) ⟨0, rfl, by omega, (EnvHas.cons rfl (EnvHas.cons rfl (EnvHas.cons rfl (EnvHas.cons rfl (EnvHas.cons rfl EnvHas.nil))))), h5⟩ ?_
    rintro _ ev10 wl10 ⟨k, rfl, hk, he10, h10⟩
    obtain ⟨ev10, rfl⟩ := he10.open
    refine W.seq_k fun K12 hK12 => ?_
    refine W.seq_k fun K13 hK13 => ?_
    refine W.regionT [(0, true), (1, true)] (by kernel_rfl) ?_
    refine Plan.move_int rfl rfl ?_
    refine Plan.ltS rfl rfl rfl ?_ ?_
    ·
      intro hc11
      refine Plan.nil ?_
      refine hK13 _ _ ?_; clear hK13
      refine W.condT rfl ?_
      refine W.skip ?_
      refine hK12 _ _ ?_; clear hK12
      refine W.seq_k fun K14 hK14 => ?_
      refine W.block ?_
      refine W.seq_k fun K15 hK15 => ?_
      refine W.regionD FS1.mixed [(0, true), (1, true), (2, true), (3, true), (4, true), (5, true), (6, true), (7, true), (8, true), (9, true)] (by kernel_rfl) ?_
      have h12 := h10.drew
      refine Plan.move_int rfl rfl ?_
      refine Plan.subN (b := 15) rfl rfl rfl (by omega) ?_
      refine Plan.idxArr1 FS1.arr93 rfl rfl rfl (by omega) ?_
      refine Plan.load1 h12 0 rfl rfl rfl (by omega) FS1.sc26 ?_
      refine Plan.move_int rfl rfl ?_
      refine Plan.subN (b := 2) rfl rfl rfl (by omega) ?_
      refine Plan.idxArr1 FS1.arr93 rfl rfl rfl (by omega) ?_
      refine Plan.load1 h12 0 rfl rfl rfl (by omega) FS1.sc26 ?_
      refine Plan.assign_int rfl rfl ?_
      refine Plan.assign_int rfl rfl ?_
      refine Plan.nil ?_
      refine hK15 _ _ ?_; clear hK15
      refine W.regionD FS1.mixed [(0, true), (1, true), (3, true), (6, true), (7, true), (9, true), (10, true), (11, true), (12, true), (14, true), (16, true), (19, true), (20, true), (23, true), (24, true), (25, true), (26, true), (2, false), (4, false), (5, true), (8, true), (13, true), (15, false), (17, false), (18, true), (21, true), (22, true), (27, true), (28, true), (29, false)] (by kernel_rfl) ?_
      have h13 := h12.drew
      refine Plan.move_int rfl rfl ?_
      refine Plan.move_int rfl rfl ?_
      refine Plan.move_int rfl rfl ?_
      refine Plan.move_int rfl rfl ?_
      refine Plan.shrU .u32 (c := 10) rfl rfl rfl ?_
      refine Plan.move_int rfl rfl ?_
      refine Plan.subN (b := 7) rfl rfl rfl (by omega) ?_
      refine Plan.idxArr1 FS1.arr93 rfl rfl rfl (by omega) ?_
      refine Plan.load1 h13 0 rfl rfl rfl (by omega) FS1.sc26 ?_
      refine Plan.move_int rfl rfl ?_
      refine Plan.move_int rfl rfl ?_
      refine Plan.move_int rfl rfl ?_
      refine Plan.shrU .u32 (c := 3) rfl rfl rfl ?_
      refine Plan.move_int rfl rfl ?_
      refine Plan.subN (b := 16) rfl rfl rfl (by omega) ?_
      refine Plan.idxArr1 FS1.arr93 rfl rfl rfl (by omega) ?_
      refine Plan.load1 h13 0 rfl rfl rfl (by omega) FS1.sc26 ?_
      refine Plan.call0 rfl FS1.call51 rfl (right_spec _ _ (by decide) _) ?_
      refine Plan.call0 rfl FS1.call51 rfl (right_spec _ _ (by decide) _) ?_
      refine Plan.xorU .u32 rfl rfl rfl ?_
      refine Plan.xorU .u32 rfl rfl rfl ?_
      refine Plan.addU .u32 rfl rfl rfl ?_
      refine Plan.call0 rfl FS1.call51 rfl (right_spec _ _ (by decide) _) ?_
      refine Plan.call0 rfl FS1.call51 rfl (right_spec _ _ (by decide) _) ?_
      refine Plan.xorU .u32 rfl rfl rfl ?_
      refine Plan.xorU .u32 rfl rfl rfl ?_
      refine Plan.addU .u32 rfl rfl rfl ?_
      refine Plan.addU .u32 rfl rfl rfl ?_
      refine Plan.idxArr1 FS1.arr93 rfl rfl rfl (by omega) ?_
      refine Plan.storeU h13 0 rfl rfl rfl rfl (by omega) FS1.sz26 rfl fun w14 h14 => ?_
      simp only [List.set_cons_zero, List.set_cons_succ] at h14
      refine Plan.nil ?_
      refine blockR_norm ?_
      refine hK14 _ _ ?_; clear hK14
      refine W.regionT [(0, true), (1, true), (2, true)] (by kernel_rfl) ?_
      refine Plan.move_int rfl rfl ?_
      refine Plan.addN (b := 1) rfl rfl rfl (by omega) ?_
      refine Plan.assign_int rfl rfl ?_
      refine Plan.nil ?_
      refine thenR_norm ?_
      refine ⟨_, ?_, k + 1, rfl, by omega, (EnvHas.cons rfl (EnvHas.cons rfl (EnvHas.cons rfl (EnvHas.cons rfl (EnvHas.cons rfl EnvHas.nil))))), h14⟩
      omega
    ·
      intro hc15
      obtain rfl : k = 48 := by omega
      generalize hW : wext blk 48 = W48 at *
      refine Plan.nil ?_
      refine hK13 _ _ ?_; clear hK13
      refine W.condF rfl ?_
      refine W.exit (thenR_exit (thenR_exit (blockR_here ?_)))
      refine hK10 _ _ ?_; clear hK10
      refine W.seq_k fun K16 hK16 => ?_
      refine W.regionD FS1.mixed [(0, true), (1, true), (2, true), (3, true), (4, true), (5, true), (6, true), (7, true), (8, true), (9, true), (10, true), (11, true), (12, true), (13, true), (14, true), (15, true), (16, true), (17, true), (18, true), (19, true), (20, true), (21, true), (22, true), (23, true)] (by kernel_rfl) ?_
      have h16 := h10.drew
      refine Plan.idxArr1 (j := 0) FS1.arr27 rfl rfl rfl (by omega) ?_
      refine Plan.load1 h16 3 rfl rfl rfl (by omega) FS1.sc26 ?_
      refine Plan.idxArr1 (j := 1) FS1.arr27 rfl rfl rfl (by omega) ?_
      refine Plan.load1 h16 3 rfl rfl rfl (by omega) FS1.sc26 ?_
      refine Plan.idxArr1 (j := 2) FS1.arr27 rfl rfl rfl (by omega) ?_
      refine Plan.load1 h16 3 rfl rfl rfl (by omega) FS1.sc26 ?_
      refine Plan.idxArr1 (j := 3) FS1.arr27 rfl rfl rfl (by omega) ?_
      refine Plan.load1 h16 3 rfl rfl rfl (by omega) FS1.sc26 ?_
      refine Plan.idxArr1 (j := 4) FS1.arr27 rfl rfl rfl (by omega) ?_
      refine Plan.load1 h16 3 rfl rfl rfl (by omega) FS1.sc26 ?_
      refine Plan.idxArr1 (j := 5) FS1.arr27 rfl rfl rfl (by omega) ?_
      refine Plan.load1 h16 3 rfl rfl rfl (by omega) FS1.sc26 ?_
      refine Plan.idxArr1 (j := 6) FS1.arr27 rfl rfl rfl (by omega) ?_
      refine Plan.load1 h16 3 rfl rfl rfl (by omega) FS1.sc26 ?_
      refine Plan.idxArr1 (j := 7) FS1.arr27 rfl rfl rfl (by omega) ?_
      refine Plan.load1 h16 3 rfl rfl rfl (by omega) FS1.sc26 ?_
      refine Plan.assign_int rfl rfl ?_
      refine Plan.assign_int rfl rfl ?_
      refine Plan.assign_int rfl rfl ?_
      refine Plan.assign_int rfl rfl ?_
      refine Plan.assign_int rfl rfl ?_
      refine Plan.assign_int rfl rfl ?_
      refine Plan.assign_int rfl rfl ?_
      refine Plan.assign_int rfl rfl ?_
      refine Plan.nil ?_
      refine hK16 _ _ ?_; clear hK16
      refine W.seq_k fun K17 hK17 => ?_
      refine W.seq_k fun K18 hK18 => ?_
      refine W.regionT [(0, true)] (by kernel_rfl) ?_
      refine Plan.move_int rfl rfl ?_
      refine Plan.nil ?_
      refine hK18 _ _ ?_; clear hK18
      refine W.block ?_
      refine W.loop (fun mR e w => ∃ t : Nat, mR = 64 - t ∧ (t ≤ 64) ∧ EnvHas e [(115, VN t), (2, .pointer (some ⟨b1, 0, none⟩)), (3, .pointer (some ⟨b2, 0, none⟩)), (4, .pointer (some ⟨b3, 0, none⟩)), (5, .pointer (some ⟨b4, 0, none⟩)), (10, VU .u32 (rounds KK (W48) (H8.of st) t).a), (11, VU .u32 (rounds KK (W48) (H8.of st) t).b), (12, VU .u32 (rounds KK (W48) (H8.of st) t).c), (13, VU .u32 (rounds KK (W48) (H8.of st) t).d), (14, VU .u32 (rounds KK (W48) (H8.of st) t).e), (15, VU .u32 (rounds KK (W48) (H8.of st) t).f), (16, VU .u32 (rounds KK (W48) (H8.of st) t).g), (17, VU .u32 (rounds KK (W48) (H8.of st) t).h)] ∧ St B w0 (⟨some b4, 0, 64, fun q => VU .u32 (W48 q), true⟩ :: ⟨some b3, 0, 8, fun _ => VU .u32 0#32, true⟩ :: ⟨some b2, 0, 64, fun q => VU .u8 (blk q), true⟩ :: ⟨some b1, 0, 8, fun q => VU .u32 (st q), true⟩ :: L) w) (_) ⟨0, rfl, by omega, (EnvHas.cons rfl (EnvHas.cons rfl (EnvHas.cons rfl (EnvHas.cons rfl (EnvHas.cons rfl (EnvHas.cons rfl (EnvHas.cons rfl (EnvHas.cons rfl (EnvHas.cons rfl (EnvHas.cons rfl (EnvHas.cons rfl (EnvHas.cons rfl (EnvHas.cons rfl EnvHas.nil))))))))))))), h16⟩ ?_
      rintro _ ev17 wl17 ⟨t, rfl, ht, he17, h17⟩
      obtain ⟨ev17, rfl⟩ := he17.open
      refine W.seq_k fun K19 hK19 => ?_
      refine W.regionT [(0, true)] (by kernel_rfl) ?_
      refine Plan.ltS rfl rfl rfl ?_ ?_
      ·
        intro hc18
        refine Plan.nil ?_
        refine hK19 _ _ ?_; clear hK19
        refine W.seq_k fun K20 hK20 => ?_
        refine W.condT rfl ?_
        refine W.skip ?_
        refine hK20 _ _ ?_; clear hK20
        refine W.seq_k fun K21 hK21 => ?_
        refine W.block ?_
        refine W.seq_k fun K22 hK22 => ?_
        refine W.regionT [(0, true), (1, true)] (by kernel_rfl) ?_
        refine Plan.move_int rfl rfl ?_
        refine Plan.assign_int rfl rfl ?_
        refine Plan.nil ?_
        refine hK22 _ _ ?_; clear hK22
        refine W.seq_k fun K23 hK23 => ?_
        refine W.regionD FS1.mixed [(0, true), (1, true), (3, true), (6, true), (10, true), (11, true), (12, true), (13, true), (14, true), (15, true), (16, true), (17, true), (19, true), (20, true), (21, true), (23, true), (24, true), (25, true), (2, false), (4, false), (5, true), (7, false), (8, true), (9, true), (18, true), (22, true), (26, true), (27, true)] (by kernel_rfl) ?_
        have h19 := h17.drew
        refine Plan.move_int rfl rfl ?_
        refine Plan.move_int rfl rfl ?_
        refine Plan.move_int rfl rfl ?_
        refine Plan.move_int rfl rfl ?_
        refine Plan.move_int rfl rfl ?_
        refine Plan.move_int rfl rfl ?_
        refine Plan.andU .u32 rfl rfl rfl ?_
        refine Plan.move_int rfl rfl ?_
        refine Plan.compU .u32 rfl rfl ?_
        refine Plan.move_int rfl rfl ?_
        refine Plan.andU .u32 rfl rfl rfl ?_
        refine Plan.xorU .u32 rfl rfl rfl ?_
        refine Plan.move_int rfl rfl ?_
        refine Plan.idxArr1 FS1.arr93 rfl rfl rfl (by omega) ?_
        refine Plan.load1 h19 (iG + 4) rfl rfl hG (by omega) FS1.sc26 ?_
        refine Plan.move_int rfl rfl ?_
        refine Plan.idxArr1 FS1.arr93 rfl rfl rfl (by omega) ?_
        refine Plan.load1 h19 0 rfl rfl rfl (by omega) FS1.sc26 ?_
        refine Plan.call0 rfl FS1.call51 rfl (right_spec _ _ (by decide) _) ?_
        refine Plan.call0 rfl FS1.call51 rfl (right_spec _ _ (by decide) _) ?_
        refine Plan.xorU .u32 rfl rfl rfl ?_
        refine Plan.call0 rfl FS1.call51 rfl (right_spec _ _ (by decide) _) ?_
        refine Plan.xorU .u32 rfl rfl rfl ?_
        refine Plan.addU .u32 rfl rfl rfl ?_
        refine Plan.addU .u32 rfl rfl rfl ?_
        refine Plan.addU .u32 rfl rfl rfl ?_
        refine Plan.addU .u32 rfl rfl rfl ?_
        refine Plan.assign_int rfl rfl ?_
        refine Plan.nil ?_
        refine hK23 _ _ ?_; clear hK23
        refine W.seq_k fun K24 hK24 => ?_
        refine W.regionT [(0, true), (1, false), (2, true), (3, false), (4, true), (5, true), (6, false), (7, true), (8, true), (9, true), (10, true), (11, true), (12, true), (13, true), (14, true), (15, true), (16, true), (17, true), (18, true), (19, true), (20, true)] (by kernel_rfl) ?_
        refine Plan.move_int rfl rfl ?_
        refine Plan.call0 rfl FS1.call51 rfl (right_spec _ _ (by decide) _) ?_
        refine Plan.move_int rfl rfl ?_
        refine Plan.call0 rfl FS1.call51 rfl (right_spec _ _ (by decide) _) ?_
        refine Plan.xorU .u32 rfl rfl rfl ?_
        refine Plan.move_int rfl rfl ?_
        refine Plan.call0 rfl FS1.call51 rfl (right_spec _ _ (by decide) _) ?_
        refine Plan.xorU .u32 rfl rfl rfl ?_
        refine Plan.move_int rfl rfl ?_
        refine Plan.move_int rfl rfl ?_
        refine Plan.andU .u32 rfl rfl rfl ?_
        refine Plan.move_int rfl rfl ?_
        refine Plan.move_int rfl rfl ?_
        refine Plan.andU .u32 rfl rfl rfl ?_
        refine Plan.xorU .u32 rfl rfl rfl ?_
        refine Plan.move_int rfl rfl ?_
        refine Plan.move_int rfl rfl ?_
        refine Plan.andU .u32 rfl rfl rfl ?_
        refine Plan.xorU .u32 rfl rfl rfl ?_
        refine Plan.addU .u32 rfl rfl rfl ?_
        refine Plan.assign_int rfl rfl ?_
        refine Plan.nil ?_
        refine hK24 _ _ ?_; clear hK24
        refine W.regionT [(0, true), (1, true), (2, true), (3, true), (4, true), (5, true), (6, true), (7, true), (8, true), (9, true), (10, true), (11, true), (12, true), (13, true), (14, true), (15, true), (16, true), (17, true), (18, true), (19, true)] (by kernel_rfl) ?_
        refine Plan.move_int rfl rfl ?_
        refine Plan.move_int rfl rfl ?_
        refine Plan.addU .u32 rfl rfl rfl ?_
        refine Plan.move_int rfl rfl ?_
        refine Plan.move_int rfl rfl ?_
        refine Plan.move_int rfl rfl ?_
        refine Plan.move_int rfl rfl ?_
        refine Plan.move_int rfl rfl ?_
        refine Plan.addU .u32 rfl rfl rfl ?_
        refine Plan.move_int rfl rfl ?_
        refine Plan.move_int rfl rfl ?_
        refine Plan.move_int rfl rfl ?_
        refine Plan.assign_int rfl rfl ?_
        refine Plan.assign_int rfl rfl ?_
        refine Plan.assign_int rfl rfl ?_
        refine Plan.assign_int rfl rfl ?_
        refine Plan.assign_int rfl rfl ?_
        refine Plan.assign_int rfl rfl ?_
        refine Plan.assign_int rfl rfl ?_
        refine Plan.assign_int rfl rfl ?_
        refine Plan.nil ?_
        refine blockR_norm ?_
        refine hK21 _ _ ?_; clear hK21
        refine W.regionT [(0, true), (1, true)] (by kernel_rfl) ?_
        refine Plan.addN (b := 1) rfl rfl rfl (by omega) ?_
        refine Plan.move_int rfl rfl ?_
        refine Plan.nil ?_
        refine thenR_norm ?_
        refine ⟨_, ?_, t + 1, rfl, by omega, (EnvHas.cons rfl (EnvHas.cons rfl (EnvHas.cons rfl (EnvHas.cons rfl (EnvHas.cons rfl (EnvHas.cons rfl (EnvHas.cons rfl (EnvHas.cons rfl (EnvHas.cons rfl (EnvHas.cons rfl (EnvHas.cons rfl (EnvHas.cons rfl (EnvHas.cons rfl EnvHas.nil))))))))))))), h19⟩
        omega
      ·
        intro hc20
        obtain rfl : t = 64 := by omega
        generalize hS : rounds KK W48 (H8.of st) 64 = S at *
        refine Plan.nil ?_
        refine hK19 _ _ ?_; clear hK19
        refine W.seq_k fun K25 hK25 => ?_
        refine W.condF rfl ?_
        refine W.exit (thenR_exit (thenR_exit (blockR_here ?_)))
        refine hK17 _ _ ?_; clear hK17
        refine W.seq_k fun K26 hK26 => ?_
        refine W.seq_k fun K27 hK27 => ?_
        refine W.regionT [(0, true), (1, true), (2, true), (3, true), (4, true), (5, true), (6, true), (7, true), (8, true), (9, true)] (by kernel_rfl) ?_
        refine Plan.move_int rfl rfl ?_
        refine Plan.move_int rfl rfl ?_
        refine Plan.move_int rfl rfl ?_
        refine Plan.move_int rfl rfl ?_
        refine Plan.move_int rfl rfl ?_
        refine Plan.move_int rfl rfl ?_
        refine Plan.move_int rfl rfl ?_
        refine Plan.move_int rfl rfl ?_
        refine Plan.buildArr (ps := [(8, fun q => VU .u32 (S.at q))]) FS1.arr27 FS1.z27 rfl rfl rfl ?_
        refine Plan.move_int rfl rfl ?_
        refine Plan.nil ?_
        refine hK27 _ _ ?_; clear hK27
        refine W.block ?_
        refine W.loop (fun mR e w => ∃ t : Nat, mR = 8 - t ∧ (t ≤ 8) ∧ EnvHas e [(187, VN t), (186, AG [(8, fun q => VU .u32 (S.at q))]), (2, .pointer (some ⟨b1, 0, none⟩)), (4, .pointer (some ⟨b3, 0, none⟩))] ∧ St B w0 (⟨some b4, 0, 64, fun q => VU .u32 (W48 q), true⟩ :: ⟨some b3, 0, 8, fun _ => VU .u32 0#32, true⟩ :: ⟨some b2, 0, 64, fun q => VU .u8 (blk q), true⟩ :: ⟨some b1, 0, 8, fun q => VU .u32 (addTo st S.at t q), true⟩ :: L) w) (_) ⟨0, rfl, by omega, (EnvHas.cons rfl (EnvHas.cons rfl (EnvHas.cons rfl (EnvHas.cons rfl EnvHas.nil)))), h17⟩ ?_
        rintro _ ev21 wl21 ⟨t, rfl, ht, he21, h21⟩
        obtain ⟨ev21, rfl⟩ := he21.open
        refine W.seq_k fun K28 hK28 => ?_
        refine W.regionT [(0, true)] (by kernel_rfl) ?_
        refine Plan.ltS rfl rfl rfl ?_ ?_
        ·
          intro hc22
          refine Plan.nil ?_
          refine hK28 _ _ ?_; clear hK28
          refine W.seq_k fun K29 hK29 => ?_
          refine W.condT rfl ?_
          refine W.skip ?_
          refine hK29 _ _ ?_; clear hK29
          refine W.seq_k fun K30 hK30 => ?_
          refine W.block ?_
          refine W.seq_k fun K31 hK31 => ?_
          refine W.regionT [(0, true), (1, true), (2, true), (3, true)] (by kernel_rfl) ?_
          refine Plan.move_int rfl rfl ?_
          refine Plan.indexA FS1.isarr27 FS1.sz26 FS1.sc26 rfl rfl rfl (by omega) (by decide) ?_
          refine Plan.assign_int rfl rfl ?_
          refine Plan.assign_int rfl rfl ?_
          refine Plan.nil ?_
          refine hK31 _ _ ?_; clear hK31
          refine W.regionT [(0, true), (1, true), (2, true), (3, true), (4, true), (5, true), (6, false)] (by kernel_rfl) ?_
          refine Plan.move_int rfl rfl ?_
          refine Plan.idxArr1 FS1.arr27 rfl rfl rfl (by omega) ?_
          refine Plan.load1 h21 3 rfl rfl rfl (by omega) FS1.sc26 ?_
          refine Plan.move_int rfl rfl ?_
          refine Plan.addU .u32 rfl rfl rfl ?_
          refine Plan.idxArr1 FS1.arr27 rfl rfl rfl (by omega) ?_
          refine Plan.storeU h21 3 rfl rfl rfl rfl (by omega) FS1.sz26 rfl fun w23 h23 => ?_
          simp only [List.set_cons_zero, List.set_cons_succ] at h23
          refine Plan.nil ?_
          refine blockR_norm ?_
          refine hK30 _ _ ?_; clear hK30
          refine W.regionT [(0, true), (1, true)] (by kernel_rfl) ?_
          refine Plan.addN (b := 1) rfl rfl rfl (by omega) ?_
          refine Plan.move_int rfl rfl ?_
          refine Plan.nil ?_
          refine thenR_norm ?_
          refine ⟨_, ?_, t + 1, rfl, by omega, (EnvHas.cons rfl (EnvHas.cons rfl (EnvHas.cons rfl (EnvHas.cons rfl EnvHas.nil)))), h23⟩
          omega
        ·
          intro hc24
          obtain rfl : t = 8 := by omega
          refine Plan.nil ?_
          refine hK28 _ _ ?_; clear hK28
          refine W.seq_k fun K32 hK32 => ?_
          refine W.condF rfl ?_
          refine W.exit (thenR_exit (thenR_exit (blockR_here ?_)))
          refine hK26 _ _ ?_; clear hK26
          refine W.seq_k fun K33 hK33 => ?_
          refine W.regionT [(0, true), (1, false)] (by kernel_rfl) ?_
          refine Plan.loadA1 h21 3 rfl rfl rfl FS1.agg27 ?_
          refine Plan.storeA h21 1 rfl rfl rfl rfl (fun _ _ => rfl) FS1.sz27 rfl fun w25 h25 => ?_
          simp only [List.set_cons_zero, List.set_cons_succ] at h25
          refine Plan.nil ?_
          refine hK33 _ _ ?_; clear hK33
          refine W.ret (finR_ret ?_)
          refine RetOk.mk (.agg h25 rfl (.cons 1 rfl .nil) FS1.agg27 .nil) ?_
          exact ⟨by subst hS hW; rfl, h25.tl.tl.tl.tl⟩


theorem slv_step {a : Option Addr} {ps : Option Nat} {o j len cnt c : Nat} (h : SlV a ps (o + j) (len - j)) (hc : len - j ≤ c) : SlV (if c = cnt then a else a.map (·.add (cnt * 1))) ps (o + (j + cnt)) (len - (j + cnt)) := fun h0 => by
  obtain ⟨b, h1, h2⟩ := h (by omega)
  refine ⟨b, h1, ?_⟩
  rw [if_neg (by omega), h2, Nat.mul_one]
  simp [Addr.add_mid, Nat.add_assoc]

set_option maxRecDepth 8000 in
set_option maxHeartbeats 1000000 in
theorem write_spec {B : Nat} {w0 w : World} {L : List Rg} {iG iS : Nat} {KK H0 : Nat → BitVec 32} {N len cc hb os offs js ms : Nat} {m G : Nat → BitVec 8} {st : Nat → BitVec 32} {blk : Nat → BitVec 8} {a : Option Addr} {ps : Option Nat} {rwS : Bool}
    (h : St B w0 (⟨some hb, 0, 8, fun q => VU .u32 (st q), true⟩ :: ⟨some hb, 8, 64, fun q => VU .u8 (blk q), true⟩ :: ⟨some hb, 72, 1, fun _ => VN (N), true⟩ :: L) w) (hG : L[iG]? = some ⟨some 0, 0, 64, fun q => VU .u32 (KK q), false⟩)
    (hS : L[iS]? = some ⟨ps, offs, ms, fun q => VU .u8 (G q), rwS⟩) (hsl : SlV a ps os len) (ho : os = offs + js) (hj : js + len ≤ ms) (hcc : len ≤ cc) (hN : N + len < 9223372036854775808) (hI : HashIs KK H0 N m st blk) :
    Calls Tryd.prog 25 #[.pointer (some ⟨hb, 0, none⟩), .slice a len cc] w fun e w' => ∃ sb : (Nat → BitVec 32) × (Nat → BitVec 8), e = .returned (.tuple #[]) ∧ St B w0 (⟨some hb, 0, 8, fun q => VU .u32 (sb.1 q), true⟩ :: ⟨some hb, 8, 64, fun q => VU .u8 (sb.2 q), true⟩ :: ⟨some hb, 72, 1, fun _ => VN (N + len), true⟩ :: L) w' ∧ HashIs KK H0 (N + len) (spl m N len (fun q => G (js + q))) sb.1 sb.2 := by
  refine W.enter 48 Tryd.func25 rfl rfl rfl ?_
  refine W.block ?_
  refine W.loop (fun mR e w => ∃ (j : Nat) (a' : Option Addr) (c' : Nat) (st' : Nat → BitVec 32) (blk' : Nat → BitVec 8), mR = len - j ∧ (j ≤ len) ∧ (SlV a' ps (os + j) (len - j)) ∧ (len - j ≤ c') ∧ (HashIs KK H0 (N + j) (spl m N j (fun q => G (js + q))) st' blk') ∧ EnvHas e [(0, .pointer (some ⟨hb, 0, none⟩)), (1, .slice a' (len - j) c')] ∧ St B w0 (⟨some hb, 0, 8, fun q => VU .u32 (st' q), true⟩ :: ⟨some hb, 8, 64, fun q => VU .u8 (blk' q), true⟩ :: ⟨some hb, 72, 1, fun _ => VN (N + j), true⟩ :: L) w) (_) ⟨0, a, cc, st, blk, rfl, by omega, hsl, hcc, by rw [spl_zero]; exact hI, (EnvHas.cons rfl (EnvHas.cons rfl EnvHas.nil)), h⟩ ?_
  rintro _ ev1 wl1 ⟨j, a', c', st', blk', rfl, hjl, hsl', hc', hI', he1, h1⟩
  obtain ⟨ev1, rfl⟩ := he1.open
  refine W.seq_k fun K1 hK1 => ?_
  refine W.seq_k fun K2 hK2 => ?_
  refine W.regionT [(0, true), (1, true), (2, true)] (by kernel_rfl) ?_
  refine Plan.move_slice rfl rfl ?_
  refine Plan.len FS1.isl22 rfl rfl ?_
  refine Plan.gtS rfl rfl rfl ?_ ?_
  ·
    intro hc2
    refine Plan.nil ?_
    refine hK2 _ _ ?_; clear hK2
    refine W.condT rfl ?_
    refine W.skip ?_
    refine hK1 _ _ ?_; clear hK1
    refine W.block ?_
    refine W.seq_k fun K3 hK3 => ?_
    refine W.regionD FS1.mixed [(0, true), (1, true), (2, true), (3, true), (4, true), (5, true), (6, true), (7, true), (8, true), (9, true), (10, false), (11, true)] (by kernel_rfl) ?_
    have h3 := h1.drew
    refine Plan.move_ptr rfl rfl ?_
    refine Plan.nilCheck rfl rfl ?_
    refine Plan.fieldAddr 8 FS1.fld96_1 rfl rfl ?_
    refine Plan.move_ptr rfl rfl ?_
    refine Plan.nilCheck rfl rfl ?_
    refine Plan.fieldAddr 72 FS1.fld96_2 rfl rfl ?_
    refine Plan.load0 h3 2 rfl rfl rfl (by omega) FS1.sc3 ?_
    refine Plan.remN (b := 64) rfl rfl rfl (by omega) ?_
    refine Plan.slArr FS1.arr30 rfl rfl ⟨_, rfl⟩ rfl (by omega) ?_
    refine Plan.move_slice rfl rfl ?_
    refine Plan.copyU h3 1 (iS + 3) (min (len - j) (64 - (N + j) % 64)) FS1.sl22 rfl rfl rfl rfl hS (fun _ => ⟨_, rfl, rfl⟩) hsl' rfl (by rw [ho, Nat.add_assoc]) rfl (by omega) (by omega) (EffO.keep (PIn.cons 2 rfl PIn.nil)) fun w4 h4 => ?_
    simp only [List.set_cons_zero, List.set_cons_succ, Nat.mul_one] at h4
    generalize hcnt : min (len - j) (64 - (N + j) % 64) = cnt at *
    refine Plan.assign_int rfl rfl ?_
    refine Plan.nil ?_
    refine hK3 _ _ ?_; clear hK3
    refine W.seq_k fun K4 hK4 => ?_
    refine W.regionT [(0, true), (1, true), (2, true), (3, true)] (by kernel_rfl) ?_
    refine Plan.move_slice rfl rfl ?_
    refine Plan.move_int rfl rfl ?_
    refine Plan.slSl FS1.sl22 rfl rfl ⟨_, rfl⟩ rfl (by omega) ?_
    refine Plan.assign_slice rfl rfl ?_
    refine Plan.nil ?_
    refine hK4 _ _ ?_; clear hK4
    refine W.seq_k fun K5 hK5 => ?_
    refine W.regionT [(0, true), (1, true), (2, true), (3, true), (4, true), (5, true), (6, true), (7, true), (8, false)] (by kernel_rfl) ?_
    refine Plan.move_ptr rfl rfl ?_
    refine Plan.nilCheck rfl rfl ?_
    refine Plan.fieldAddr 72 FS1.fld96_2 rfl rfl ?_
    refine Plan.load0 h4 2 rfl rfl rfl (by omega) FS1.sc3 ?_
    refine Plan.move_int rfl rfl ?_
    refine Plan.addN rfl rfl rfl (by omega) ?_
    refine Plan.nilCheck rfl rfl ?_
    refine Plan.fieldAddr 72 FS1.fld96_2 rfl rfl ?_
    refine Plan.storeC_int h4 2 rfl rfl rfl rfl FS1.sz3 rfl fun w5 h5 => ?_
    simp only [List.set_cons_zero, List.set_cons_succ] at h5
    refine Plan.nil ?_
    refine hK5 _ _ ?_; clear hK5
    refine W.seq_k fun K6 hK6 => ?_
    refine W.regionT [(0, true), (1, true), (2, true), (3, true), (4, true), (5, true)] (by kernel_rfl) ?_
    refine Plan.move_ptr rfl rfl ?_
    refine Plan.nilCheck rfl rfl ?_
    refine Plan.fieldAddr 72 FS1.fld96_2 rfl rfl ?_
    refine Plan.load0 h5 2 rfl rfl rfl (by omega) FS1.sc3 ?_
    refine Plan.remN (b := 64) rfl rfl rfl (by omega) ?_
    refine Plan.eqS rfl rfl rfl ?_ ?_
    ·
      intro hc6
      have hI2 := hI'.whole (g := fun q => G (js + j + q)) (cnt := cnt) (by omega)
      refine Plan.nil ?_
      refine hK6 _ _ ?_; clear hK6
      refine W.condT rfl ?_
      refine W.regionD FS1.mixed [(0, true), (1, true), (2, true), (3, true), (4, true), (5, true), (6, true), (7, true), (8, true), (9, false), (10, true), (11, true), (12, false)] (by kernel_rfl) ?_
      have h7 := h5.drew
      refine Plan.move_ptr rfl rfl ?_
      refine Plan.move_ptr rfl rfl ?_
      refine Plan.nilCheck rfl rfl ?_
      refine Plan.fieldAddr0 FS1.fld96_0 rfl rfl ?_
      refine Plan.loadA1 h7 0 rfl rfl rfl FS1.agg27 ?_
      refine Plan.move_ptr rfl rfl ?_
      refine Plan.nilCheck rfl rfl ?_
      refine Plan.fieldAddr 8 FS1.fld96_1 rfl rfl ?_
      refine Plan.loadA1 h7 1 rfl rfl rfl FS1.agg30 ?_
      refine Plan.callW rfl FS1.call20 rfl (compress_spec KK st' _ h7 (iG := iG + 3) hG) rfl fun w8 h8 => ?_
      refine Plan.nilCheck rfl rfl ?_
      refine Plan.fieldAddr0 FS1.fld96_0 rfl rfl ?_
      refine Plan.storeA h8 0 rfl rfl rfl rfl (fun _ _ => rfl) FS1.sz27 rfl fun w9 h9 => ?_
      simp only [List.set_cons_zero, List.set_cons_succ] at h9
      refine Plan.nil ?_
      refine blockR_norm ?_
      refine thenR_norm ?_
      have e2 : N + j + cnt = N + (j + cnt) := Nat.add_assoc _ _ _
      rw [e2] at h9
      refine ⟨_, ?_, j + cnt, (if c' = cnt then a' else a'.map (·.add (cnt * 1))), c' - cnt, _, _, rfl, by omega, slv_step hsl' (by omega), by omega, hI2.fix, (EnvHas.cons rfl (EnvHas.cons (by rw [← Nat.sub_sub]; rfl) EnvHas.nil)), h9⟩
      omega
    ·
      intro hc10
      have hI2 := hI'.part (g := fun q => G (js + j + q)) (cnt := cnt) (by omega)
      refine Plan.nil ?_
      refine hK6 _ _ ?_; clear hK6
      refine W.condF rfl ?_
      refine W.skip ?_
      refine blockR_norm ?_
      refine thenR_norm ?_
      have e2 : N + j + cnt = N + (j + cnt) := Nat.add_assoc _ _ _
      rw [e2] at h5
      refine ⟨_, ?_, j + cnt, (if c' = cnt then a' else a'.map (·.add (cnt * 1))), c' - cnt, _, _, rfl, by omega, slv_step hsl' (by omega), by omega, hI2.fix, (EnvHas.cons rfl (EnvHas.cons (by rw [← Nat.sub_sub]; rfl) EnvHas.nil)), h5⟩
      omega
  ·
    intro hc11
    obtain rfl : j = len := by omega
    refine Plan.nil ?_
    refine hK2 _ _ ?_; clear hK2
    refine W.condF rfl ?_
    refine W.exit (thenR_exit (thenR_exit (blockR_here ?_)))
    refine finR_norm ?_
    refine RetOk.mk .nil ?_
    exact ⟨(st', blk'), rfl, h1, hI'⟩

end Go.Proofs.YtjdgbahjpdopbaaDoor
