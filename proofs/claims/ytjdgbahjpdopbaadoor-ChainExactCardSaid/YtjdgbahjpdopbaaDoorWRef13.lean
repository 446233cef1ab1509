/-
  WALKS of the package's functions, printed by this session's own program (auto.py).
-/
import Derived.Test.YtjdgbahjpdopbaaDoorProg
import Derived.Test.YtjdgbahjpdopbaaDoorLx9
import Derived.Test.YtjdgbahjpdopbaaDoorRRef13
import Derived.Test.YtjdgbahjpdopbaaDoorEls
import Derived.Test.YtjdgbahjpdopbaaDoorWRef03
namespace Go.Proofs.YtjdgbahjpdopbaaDoor
set_option linter.unusedSimpArgs false
set_option linter.unusedVariables false
set_option linter.unusedSectionVars false
open Go Go.LW
theorem FRef13.slu22 : Tryd.prog.underlying 22 = some (.slice 5) := by kernel_rfl
theorem FRef13.u5 : Tryd.prog.underlying 5 = some (.int .u8) := by kernel_rfl
theorem FRef13.sz5 : szT Tryd.prog 5 1 = true := by kernel_rfl
theorem FRef13.zv5 : (Tryd.prog.info? 5).bind (·.zero) = some (VU .u8 0#8) := by kernel_rfl
theorem FRef13.mixed : Tryd.prog.follows .mixedOrders = true := by kernel_rfl
theorem FRef13.sl22 : slB Tryd.prog 22 1 = true := by kernel_rfl
theorem FRef13.sc5 : scalarT Tryd.prog 5 = true := by kernel_rfl
theorem FRef13.agg61 : aggT Tryd.prog 61 32 = true := by kernel_rfl
theorem FRef13.zv61 : (Tryd.prog.info? 61).bind (·.zero) = some (AG [(32, fun _ => VU .u8 0#8)]) := by kernel_rfl
theorem FRef13.slu62 : Tryd.prog.underlying 62 = some (.slice 61) := by kernel_rfl
theorem FRef13.sz61 : szT Tryd.prog 61 32 = true := by kernel_rfl
theorem FRef13.el62 : elD Tryd.prog 62 = some (32, 32, some (AG [(32, fun _ => VU .u8 0#8)])) := by kernel_rfl
theorem FRef13.arr61 : arrB Tryd.prog 61 32 1 = true := by kernel_rfl
theorem FRef13.z61 : zeroIs Tryd.prog 61 [(32, fun _ => VU .u8 0#8)] := zeroIs_agg (by kernel_rfl)
theorem FRef13.row61 : rowB Tryd.prog 61 = true := by kernel_rfl
theorem FRef13.z31 : zeroIs Tryd.prog 31 [(32, fun _ => VU .u8 0#8)] := zeroIs_agg (by kernel_rfl)
theorem FRef13.arr31 : arrB Tryd.prog 31 32 1 = true := by kernel_rfl
theorem FRef13.sz31 : szT Tryd.prog 31 32 = true := by kernel_rfl
theorem FRef13.call58 : callB Tryd.prog 58 = true := by kernel_rfl
theorem FRef13.call64 : callB Tryd.prog 64 = true := by kernel_rfl
theorem FRef13.call65 : callB Tryd.prog 65 = true := by kernel_rfl
theorem FRef13.call49 : callB Tryd.prog 49 = true := by kernel_rfl

set_option maxRecDepth 8000 in
set_option maxHeartbeats 1000000 in
theorem letheref13_key_ok {B : Nat} {w0 w : World} {L : List Rg} {b1 : List Byte} {ab1 : Option Addr} {nb1 cb1 ib1 : Nat} (hb1 : Bx L ib1 ab1 nb1 cb1 b1) {i_2 : Int} {r : (Nat → BitVec 8)} (hR : letheref13_key b1 i_2 r) (HST : St B w0 (L) w) :
    Calls Tryd.prog 65 #[.slice ab1 nb1 cb1, .int .i64 i_2] w fun e w' => e = .returned (AG [(32, fun q => VU .u8 (r q))]) ∧ St B w0 (L) w' := by
  refine W.enter 20 Tryd.func65 rfl rfl rfl ?_
  unfold letheref13_key at hR
  have eb1 := hb1.hl; subst eb1
  refine W.seq_k fun K3 hK3 => ?_
  refine W.regionT [(0, false)] (by kernel_rfl) ?_
  refine Plan.alloc HST rfl FRef13.z61 PIn.nil fun b4 w4 hb4 h4 => ?_
  simp only [rngs, Nat.zero_add, Nat.reduceAdd, List.cons_append, List.nil_append] at h4
  refine Plan.nil ?_
  refine hK3 _ _ ?_; clear hK3
  refine W.seq_k fun K5 hK5 => ?_
  refine W.regionT [(0, false)] (by kernel_rfl) ?_
  refine Plan.alloc h4 rfl FRef13.z61 PIn.nil fun b6 w6 hb6 h6 => ?_
  simp only [rngs, Nat.zero_add, Nat.reduceAdd, List.cons_append, List.nil_append] at h6
  refine Plan.nil ?_
  refine hK5 _ _ ?_; clear hK5
  refine W.seq_k fun K7 hK7 => ?_
  refine W.seq_k fun K8 hK8 => ?_
  refine W.regionT [(0, true)] (by kernel_rfl) ?_
  refine Plan.assign_int rfl rfl ?_
  refine Plan.nil ?_
  refine hK8 _ _ ?_; clear hK8
  obtain ⟨m29, hI30, hR030⟩ := hR
  refine W.cutN (fun e w => ∃ y_m29 : Nat → BitVec 8, m29 = y_m29 ∧ EnvHas e [(4, .pointer (some ⟨b4, 0, none⟩)), (5, .pointer (some ⟨b6, 0, none⟩))] ∧ St B w0 (⟨some b6, 0, 32, fun q => VU .u8 (y_m29 q), true⟩ :: ⟨some b4, 0, 32, fun q => VU .u8 ((fun _ => 0#8) q), true⟩ :: L) w) ?_ ?_
  ·
    refine W.block ?_
    refine W.iter hI30 (fun (s30 : (Nat × (Nat → BitVec 8))) e w => EnvHas e [(0, .slice ab1 b1.length cb1), (1, .int .i64 i_2), (4, .pointer (some ⟨b4, 0, none⟩)), (5, .pointer (some ⟨b6, 0, none⟩)), (6, VN s30.1)] ∧ St B w0 (⟨some b6, 0, 32, fun q => VU .u8 (s30.2 q), true⟩ :: ⟨some b4, 0, 32, fun q => VU .u8 ((fun _ => 0#8) q), true⟩ :: L) w) ⟨(EnvHas.cons rfl (EnvHas.cons rfl (EnvHas.cons rfl (EnvHas.cons rfl (EnvHas.cons rfl EnvHas.nil))))), h6⟩ ?_
    rintro ⟨j27, m28⟩ o30 hR hx30 ev31 wl31 ⟨he31, h31⟩
    obtain ⟨ev31, rfl⟩ := he31.open
    unfold letheref13_key_l0 at hR
    refine W.seq_k fun K32 hK32 => ?_
    refine W.seq_k fun K33 hK33 => ?_
    refine W.regionT [(0, true), (1, true)] (by kernel_rfl) ?_
    refine Plan.move_int rfl rfl ?_
    refine Plan.cmpP (a := (((j27 : Nat) : Int) : Int)) (b := (32 : Int)) (p := j27 < 32) rfl rfl rfl rfl icmp_ltN ?_
    refine Plan.nil ?_
    refine hK33 _ _ ?_; clear hK33
    by_cases hc34 : j27 < 32
    ·
      replace hR := ifT hR hc34
      refine W.condT (congrArg Value.bool (decide_eq_true hc34)) ?_
      refine W.skip ?_
      refine hK32 _ _ ?_; clear hK32
      refine W.seq_k fun K35 hK35 => ?_
      refine W.block ?_
      refine W.regionT [(0, true), (1, true), (2, true), (3, true), (4, true), (5, true), (6, true), (7, true), (8, false)] (by kernel_rfl) ?_
      refine Plan.move_int rfl rfl ?_
      refine Plan.move_slice rfl rfl ?_
      refine Plan.move_int rfl rfl ?_
      refine Plan.move_int rfl rfl ?_
      obtain ⟨hc36, hR⟩ := hR
      refine Plan.addI (a := i_2) (b := ((j27 : Nat) : Int)) rfl rfl rfl (by omega) ?_
      obtain ⟨hc37, hR⟩ := hR
      refine Plan.idxVS (j := (i_2 + ((j27 : Nat) : Int)).toNat) h31 (hb1.app [_, _]) FRef13.sl22 rfl rfl (congrArg (Value.int .i64) (Int.toNat_of_nonneg hc37.1).symm) (toNat_lt hc37.1 hc37.2) ?_
      refine Plan.loadV (j := (i_2 + ((j27 : Nat) : Int)).toNat) h31 (hb1.app [_, _]) rfl rfl (toNat_lt hc37.1 hc37.2) FRef13.sc5 fun r38 hr38 => ?_
      refine Plan.idxArr1 (j := j27) FRef13.arr61 rfl rfl rfl (by omega) ?_
      refine Plan.storeU (j := j27) (X := (lit b1 ((i_2 + ((j27 : Nat) : Int)).toNat))) h31 0 rfl rfl rfl rfl (by omega) FRef13.sz5 rfl fun w39 h39 => ?_
      simp only [List.cons_append, List.nil_append, List.set_cons_zero, List.set_cons_succ] at h39
      refine Plan.nil ?_
      refine blockR_norm ?_
      refine hK35 _ _ ?_; clear hK35
      refine W.regionT [(0, true), (1, true), (2, true)] (by kernel_rfl) ?_
      refine Plan.move_int rfl rfl ?_
      refine Plan.addN (a := j27) (b := 1) rfl rfl rfl (by omega) ?_
      refine Plan.assign_int rfl rfl ?_
      refine Plan.nil ?_
      exact iterR_norm ⟨_, hR, (EnvHas.cons rfl (EnvHas.cons rfl (EnvHas.cons rfl (EnvHas.cons rfl (EnvHas.cons rfl EnvHas.nil))))), h39⟩
    ·
      replace hR := ifF hR hc34
      refine W.condF (congrArg Value.bool (decide_eq_false hc34)) ?_
      refine W.exit (thenR_exit (iterR_exit (blockR_here ?_)))
      exact ⟨m28, (hx30 _ hR).symm, (EnvHas.cons rfl (EnvHas.cons rfl EnvHas.nil)), h31⟩
  ·
    rintro ev40 wl40 ⟨y_m29, hy40, he40, h40⟩
    obtain ⟨ev40, rfl⟩ := he40.open
    subst hy40
    replace hR := hR030
    refine hK7 _ _ ?_; clear hK7
    refine W.seq_k fun K41 hK41 => ?_
    refine W.regionT [(0, true), (1, false)] (by kernel_rfl) ?_
    refine Plan.loadA1 h40 0 rfl rfl rfl FRef13.agg61 ?_
    refine Plan.storeA (f' := fun q => VU .u8 (m29 q)) h40 1 rfl rfl rfl rfl (fun _ _ => rfl) FRef13.sz61 rfl fun w42 h42 => ?_
    simp only [List.cons_append, List.nil_append, List.set_cons_zero, List.set_cons_succ] at h42
    refine Plan.nil ?_
    refine hK41 _ _ ?_; clear hK41
    refine W.ret (finR_ret ?_)
    have h43 := St.pickT (C := [_, _]) h42 [] (by decide)
    simp only [pick, List.filterMap_cons, List.filterMap_nil, List.getElem?_cons_zero, List.getElem?_cons_succ, List.cons_append, List.nil_append] at h43
    subst r
    refine RetOk.mk (.agg h42 rfl (.cons 1 rfl .nil) FRef13.agg61 .nil) ?_
    exact ⟨rfl, h43⟩


set_option maxRecDepth 8000 in
set_option maxHeartbeats 1000000 in
theorem letheref13_Root_ok {B : Nat} {w0 w : World} {L : List Rg} {iG2 : Nat} (hG2 : L[iG2]? = some ⟨some 2, 0, 64, fun q => VU .u64 (K64 q), false⟩) {iG3 : Nat} (hG3 : L[iG3]? = some ⟨some 3, 0, 8, fun q => VU .u64 (H64 q), false⟩) {root1 : Nat → BitVec 8} {shared2 : Nat → BitVec 8} {r : ((Nat → BitVec 8) × (Nat → BitVec 8))} (hR : letheref13_Root root1 shared2 r) (HST : St B w0 (L) w) :
    Calls Tryd.prog 47 #[AG [(32, fun q => VU .u8 (root1 q))], AG [(32, fun q => VU .u8 (shared2 q))]] w fun e w' => e = .returned (.tuple #[AG [(32, fun q => VU .u8 (r.1 q))], AG [(32, fun q => VU .u8 (r.2 q))]]) ∧ St B w0 (L) w' := by
  refine W.enter 20 Tryd.func47 rfl rfl rfl ?_
  unfold letheref13_Root at hR
  refine W.seq_k fun K3 hK3 => ?_
  refine W.regionT [(0, false), (1, false), (2, false), (3, false)] (by kernel_rfl) ?_
  refine Plan.boxA HST rfl rfl PIn.nil fun b4 w4 hb4 h4 => ?_
  simp only [rngs, Nat.zero_add, Nat.reduceAdd, List.cons_append, List.nil_append] at h4
  refine Plan.boxA h4 rfl rfl PIn.nil fun b5 w5 hb5 h5 => ?_
  simp only [rngs, Nat.zero_add, Nat.reduceAdd, List.cons_append, List.nil_append] at h5
  refine Plan.alloc h5 rfl FRef13.z61 PIn.nil fun b6 w6 hb6 h6 => ?_
  simp only [rngs, Nat.zero_add, Nat.reduceAdd, List.cons_append, List.nil_append] at h6
  refine Plan.alloc h6 rfl FRef13.z61 PIn.nil fun b7 w7 hb7 h7 => ?_
  simp only [rngs, Nat.zero_add, Nat.reduceAdd, List.cons_append, List.nil_append] at h7
  refine Plan.nil ?_
  refine hK3 _ _ ?_; clear hK3
  refine W.seq_k fun K8 hK8 => ?_
  refine W.regionD FRef13.mixed [(0, true), (1, true), (2, false), (3, false), (4, false), (5, true), (6, true), (7, true), (8, true), (9, true)] (by kernel_rfl) ?_
  have h9 := h7.drew
  refine Plan.slArrO (lo := 0) (hi := 32) (m := 32) (c := 32) (o' := 0) FRef13.arr61 rfl rfl rfl rfl (by omega) (by omega) (by omega) (by omega) ?_
  refine Plan.slArrO (lo := 0) (hi := 32) (m := 32) (c := 32) (o' := 0) FRef13.arr61 rfl rfl rfl rfl (by omega) (by omega) (by omega) (by omega) ?_
  refine Plan.constBytesO PIn.nil h9 (f := fun q => VU .u8 (lit ([108#8, 101#8, 116#8, 104#8, 101#8, 32#8, 114#8, 111#8, 111#8, 116#8] : List Byte) q)) FRef13.slu22 FRef13.u5 FRef13.sz5 FRef13.zv5 (by decide) (by decide) rfl (fun _ => rfl) (fun _ => rfl) rfl (by kernel_rfl) fun b10 w10 hb10 h10 => ?_
  rcases hR with ⟨x_12, x_13, hr11, hR⟩ | ⟨x_14, x_15, hr11, hR⟩
  ·
    refine Plan.call (vs := [.slice (some ⟨b4, 0, none⟩) 32 32, .slice (some ⟨b5, 0, none⟩) 32 32, .slice (some ⟨b10, 0, none⟩) 10 10, VN 64]) rfl FRef13.call64 rfl (letheref03_Derive_ok (iG2 := iG2 + 5) hG2 (iG3 := iG3 + 5) hG3 (by exact (Bx.arr0 (n := 32) (cc := 32) 4 rfl (by omega) (by omega))) (by exact (Bx.arr0 (n := 32) (cc := 32) 3 rfl (by omega) (by omega))) (by exact (Bx.arr0 (n := 10) (cc := 10) 0 rfl (by omega) (by omega))) hr11 h10) ?_
    rintro _ w21 ⟨ay0_16, py0_17, ny0_18, cy0_19, Fy0_20, rfl, h21, hf21_0⟩
    try dsimp only at hf21_0
    obtain rfl := hf21_0.hl
    refine ⟨_, rfl, .inl ⟨PIn.keep PIn.nil h21, ?_⟩⟩
    refine Plan.move_tuple rfl rfl ?_
    refine Plan.extract_slice rfl rfl rfl ?_
    refine Plan.extract_int rfl rfl rfl ?_
    refine Plan.assign_slice rfl rfl ?_
    refine Plan.assign_int rfl rfl ?_
    refine Plan.nil ?_
    refine hK8 _ _ ?_; clear hK8
    refine W.seq_k fun K22 hK22 => ?_
    refine W.regionT [(0, true), (1, false), (2, true), (3, false), (4, false), (5, false)] (by kernel_rfl) ?_
    refine Plan.move_slice rfl rfl ?_
    obtain ⟨x_24, hr23, hR⟩ := hR
    refine Plan.call (vs := [.slice ay0_16 x_12.length cy0_19, VN 0]) rfl FRef13.call65 rfl (letheref13_key_ok (by exact (hf21_0.bx 0 rfl)) hr23 h21) ?_
    rintro _ w25 ⟨rfl, h25⟩
    refine ⟨_, rfl, .inl ⟨PIn.keep PIn.nil h25, ?_⟩⟩
    refine Plan.move_slice rfl rfl ?_
    obtain ⟨x_27, hr26, hR⟩ := hR
    refine Plan.call (vs := [.slice ay0_16 x_12.length cy0_19, VN 32]) rfl FRef13.call65 rfl (letheref13_key_ok (by exact (hf21_0.bx 0 rfl)) hr26 h25) ?_
    rintro _ w28 ⟨rfl, h28⟩
    refine ⟨_, rfl, .inl ⟨PIn.keep PIn.nil h28, ?_⟩⟩
    refine Plan.storeA (f' := fun q => VU .u8 (x_24 q)) h28 3 rfl rfl rfl rfl (fun _ _ => rfl) FRef13.sz61 rfl fun w29 h29 => ?_
    simp only [List.cons_append, List.nil_append, List.set_cons_zero, List.set_cons_succ] at h29
    refine Plan.storeA (f' := fun q => VU .u8 (x_27 q)) h29 2 rfl rfl rfl rfl (fun _ _ => rfl) FRef13.sz61 rfl fun w30 h30 => ?_
    simp only [List.cons_append, List.nil_append, List.set_cons_zero, List.set_cons_succ] at h30
    refine Plan.nil ?_
    refine hK22 _ _ ?_; clear hK22
    refine W.ret (finR_ret ?_)
    have h31 := St.pickT (C := [_, _, _, _, _, _]) h30 [] (by decide)
    simp only [pick, List.filterMap_cons, List.filterMap_nil, List.getElem?_cons_zero, List.getElem?_cons_succ, List.cons_append, List.nil_append] at h31
    subst r
    refine RetOk.mk (.agg h30 rfl (.cons 3 rfl .nil) FRef13.agg61 (.agg h30 rfl (.cons 2 rfl .nil) FRef13.agg61 .nil)) ?_
    exact ⟨rfl, h31⟩
  ·
    refine Plan.call (vs := [.slice (some ⟨b4, 0, none⟩) 32 32, .slice (some ⟨b5, 0, none⟩) 32 32, .slice (some ⟨b10, 0, none⟩) 10 10, VN 64]) rfl FRef13.call64 rfl (letheref03_Derive_ok (iG2 := iG2 + 5) hG2 (iG3 := iG3 + 5) hG3 (by exact (Bx.arr0 (n := 32) (cc := 32) 4 rfl (by omega) (by omega))) (by exact (Bx.arr0 (n := 32) (cc := 32) 3 rfl (by omega) (by omega))) (by exact (Bx.arr0 (n := 10) (cc := 10) 0 rfl (by omega) (by omega))) hr11 h10) ?_
    rintro _ w36 ⟨ry0_32, ay0_33, ny0_34, cy0_35, rfl, h36, hf36_0⟩
    try dsimp only at hf36_0
    obtain rfl := hf36_0.hl
    refine ⟨_, rfl, .inl ⟨PIn.keep PIn.nil h36, ?_⟩⟩
    refine Plan.move_tuple rfl rfl ?_
    refine Plan.extract_slice rfl rfl rfl ?_
    refine Plan.extract_int rfl rfl rfl ?_
    refine Plan.assign_slice rfl rfl ?_
    refine Plan.assign_int rfl rfl ?_
    refine Plan.nil ?_
    refine hK8 _ _ ?_; clear hK8
    refine W.seq_k fun K37 hK37 => ?_
    refine W.regionT [(0, true), (1, false), (2, true), (3, false), (4, false), (5, false)] (by kernel_rfl) ?_
    refine Plan.move_slice rfl rfl ?_
    obtain ⟨x_39, hr38, hR⟩ := hR
    refine Plan.call (vs := [.slice ay0_33 x_14.length cy0_35, VN 0]) rfl FRef13.call65 rfl (letheref13_key_ok (by exact (Bx.move (j := 0) hf36_0 rfl rfl)) hr38 h36) ?_
    rintro _ w40 ⟨rfl, h40⟩
    refine ⟨_, rfl, .inl ⟨PIn.keep PIn.nil h40, ?_⟩⟩
    refine Plan.move_slice rfl rfl ?_
    obtain ⟨x_42, hr41, hR⟩ := hR
    refine Plan.call (vs := [.slice ay0_33 x_14.length cy0_35, VN 32]) rfl FRef13.call65 rfl (letheref13_key_ok (by exact (Bx.move (j := 0) hf36_0 rfl rfl)) hr41 h40) ?_
    rintro _ w43 ⟨rfl, h43⟩
    refine ⟨_, rfl, .inl ⟨PIn.keep PIn.nil h43, ?_⟩⟩
    refine Plan.storeA (f' := fun q => VU .u8 (x_39 q)) h43 3 rfl rfl rfl rfl (fun _ _ => rfl) FRef13.sz61 rfl fun w44 h44 => ?_
    simp only [List.cons_append, List.nil_append, List.set_cons_zero, List.set_cons_succ] at h44
    refine Plan.storeA (f' := fun q => VU .u8 (x_42 q)) h44 2 rfl rfl rfl rfl (fun _ _ => rfl) FRef13.sz61 rfl fun w45 h45 => ?_
    simp only [List.cons_append, List.nil_append, List.set_cons_zero, List.set_cons_succ] at h45
    refine Plan.nil ?_
    refine hK37 _ _ ?_; clear hK37
    refine W.ret (finR_ret ?_)
    have h46 := St.pickT (C := [_, _, _, _, _, _]) h45 [] (by decide)
    simp only [pick, List.filterMap_cons, List.filterMap_nil, List.getElem?_cons_zero, List.getElem?_cons_succ, List.cons_append, List.nil_append] at h46
    subst r
    refine RetOk.mk (.agg h45 rfl (.cons 3 rfl .nil) FRef13.agg61 (.agg h45 rfl (.cons 2 rfl .nil) FRef13.agg61 .nil)) ?_
    exact ⟨rfl, h46⟩


set_option maxRecDepth 8000 in
set_option maxHeartbeats 1000000 in
theorem letheref13_Step_ok {B : Nat} {w0 w : World} {L : List Rg} {iG2 : Nat} (hG2 : L[iG2]? = some ⟨some 2, 0, 64, fun q => VU .u64 (K64 q), false⟩) {iG3 : Nat} (hG3 : L[iG3]? = some ⟨some 3, 0, 8, fun q => VU .u64 (H64 q), false⟩) {k1 : Nat → BitVec 8} {r : ((Nat → BitVec 8) × (Nat → BitVec 8))} (hR : letheref13_Step k1 r) (HST : St B w0 (L) w) :
    Calls Tryd.prog 49 #[AG [(32, fun q => VU .u8 (k1 q))]] w fun e w' => e = .returned (.tuple #[AG [(32, fun q => VU .u8 (r.1 q))], AG [(32, fun q => VU .u8 (r.2 q))]]) ∧ St B w0 (L) w' := by
  refine W.enter 16 Tryd.func49 rfl rfl rfl ?_
  unfold letheref13_Step at hR
  refine W.seq_k fun K2 hK2 => ?_
  refine W.regionT [(0, false), (1, false), (2, false)] (by kernel_rfl) ?_
  refine Plan.boxA HST rfl rfl PIn.nil fun b3 w3 hb3 h3 => ?_
  simp only [rngs, Nat.zero_add, Nat.reduceAdd, List.cons_append, List.nil_append] at h3
  refine Plan.alloc h3 rfl FRef13.z61 PIn.nil fun b4 w4 hb4 h4 => ?_
  simp only [rngs, Nat.zero_add, Nat.reduceAdd, List.cons_append, List.nil_append] at h4
  refine Plan.alloc h4 rfl FRef13.z61 PIn.nil fun b5 w5 hb5 h5 => ?_
  simp only [rngs, Nat.zero_add, Nat.reduceAdd, List.cons_append, List.nil_append] at h5
  refine Plan.nil ?_
  refine hK2 _ _ ?_; clear hK2
  refine W.seq_k fun K6 hK6 => ?_
  refine W.regionT [(0, true), (1, false), (2, false), (3, false), (4, false)] (by kernel_rfl) ?_
  refine Plan.slArrO (lo := 0) (hi := 32) (m := 32) (c := 32) (o' := 0) FRef13.arr61 rfl rfl rfl rfl (by omega) (by omega) (by omega) (by omega) ?_
  refine Plan.buildSlice h5 (ps := [(1, fun q => VU .u8 (lit ([1#8] : List Byte) q))]) FRef13.slu22 FRef13.sz5 FRef13.zv5 (by decide) (by decide) rfl rfl (by kernel_rfl) (EffO.keep PIn.nil) fun b7 w7 hb7 h7 => ?_
  simp only [rngs, List.cons_append, List.nil_append] at h7
  have ho7 : Ow (some ⟨b7, 0, none⟩) (some b7) ([1#8] : List Byte).length 1 (lit ([1#8] : List Byte)) ([1#8] : List Byte) := ⟨.inr ⟨b7, rfl, rfl⟩, Nat.le_refl _, rfl, fun q _ => rfl⟩
  obtain ⟨x_9, hr8, hR⟩ := hR
  refine Plan.call (vs := [.slice (some ⟨b3, 0, none⟩) 32 32, .slice (some ⟨b7, 0, none⟩) (([1#8] : List Byte).length) 1]) rfl FRef13.call58 rfl (letheref03_Mac_ok (iG2 := iG2 + 4) hG2 (iG3 := iG3 + 4) hG3 (by exact (Bx.arr0 (n := 32) (cc := 32) 3 rfl (by omega) (by omega))) (by exact (ho7.bx 0 rfl)) hr8 h7) ?_
  rintro _ w10 ⟨rfl, h10⟩
  refine ⟨_, rfl, .inl ⟨PIn.keep PIn.nil h10, ?_⟩⟩
  refine Plan.alloc h10 rfl FRef13.z31 PIn.nil fun b11 w11 hb11 h11 => ?_
  simp only [rngs, Nat.zero_add, Nat.reduceAdd, List.cons_append, List.nil_append] at h11
  refine Plan.storeA (f' := fun q => VU .u8 (x_9 q)) h11 0 rfl rfl rfl rfl (fun _ _ => rfl) FRef13.sz31 rfl fun w12 h12 => ?_
  simp only [List.cons_append, List.nil_append, List.set_cons_zero, List.set_cons_succ] at h12
  refine Plan.nil ?_
  refine hK6 _ _ ?_; clear hK6
  refine W.seq_k fun K13 hK13 => ?_
  refine W.regionT [(0, true), (1, false), (2, false), (3, false), (4, false)] (by kernel_rfl) ?_
  refine Plan.slArrO (lo := 0) (hi := 32) (m := 32) (c := 32) (o' := 0) FRef13.arr61 rfl rfl rfl rfl (by omega) (by omega) (by omega) (by omega) ?_
  refine Plan.buildSlice h12 (ps := [(1, fun q => VU .u8 (lit ([2#8] : List Byte) q))]) FRef13.slu22 FRef13.sz5 FRef13.zv5 (by decide) (by decide) rfl rfl (by kernel_rfl) (EffO.keep PIn.nil) fun b14 w14 hb14 h14 => ?_
  simp only [rngs, List.cons_append, List.nil_append] at h14
  have ho14 : Ow (some ⟨b14, 0, none⟩) (some b14) ([2#8] : List Byte).length 1 (lit ([2#8] : List Byte)) ([2#8] : List Byte) := ⟨.inr ⟨b14, rfl, rfl⟩, Nat.le_refl _, rfl, fun q _ => rfl⟩
  obtain ⟨x_16, hr15, hR⟩ := hR
  refine Plan.call (vs := [.slice (some ⟨b3, 0, none⟩) 32 32, .slice (some ⟨b14, 0, none⟩) (([2#8] : List Byte).length) 1]) rfl FRef13.call58 rfl (letheref03_Mac_ok (iG2 := iG2 + 6) hG2 (iG3 := iG3 + 6) hG3 (by exact (Bx.arr0 (n := 32) (cc := 32) 5 rfl (by omega) (by omega))) (by exact (ho14.bx 0 rfl)) hr15 h14) ?_
  rintro _ w17 ⟨rfl, h17⟩
  refine ⟨_, rfl, .inl ⟨PIn.keep PIn.nil h17, ?_⟩⟩
  refine Plan.alloc h17 rfl FRef13.z31 PIn.nil fun b18 w18 hb18 h18 => ?_
  simp only [rngs, Nat.zero_add, Nat.reduceAdd, List.cons_append, List.nil_append] at h18
  refine Plan.storeA (f' := fun q => VU .u8 (x_16 q)) h18 0 rfl rfl rfl rfl (fun _ _ => rfl) FRef13.sz31 rfl fun w19 h19 => ?_
  simp only [List.cons_append, List.nil_append, List.set_cons_zero, List.set_cons_succ] at h19
  refine Plan.nil ?_
  refine hK13 _ _ ?_; clear hK13
  refine W.seq_k fun K20 hK20 => ?_
  refine W.regionD FRef13.mixed [(0, true), (2, true), (1, false), (3, false), (4, false), (5, false)] (by kernel_rfl) ?_
  have h21 := h19.drew
  refine Plan.slArrO (lo := 0) (hi := 32) (m := 32) (c := 32) (o' := 0) FRef13.arr31 rfl rfl rfl rfl (by omega) (by omega) (by omega) (by omega) ?_
  refine Plan.slArrO (lo := 0) (hi := 32) (m := 32) (c := 32) (o' := 0) FRef13.arr31 rfl rfl rfl rfl (by omega) (by omega) (by omega) (by omega) ?_
  obtain ⟨x_23, hr22, hR⟩ := hR
  refine Plan.call (vs := [.slice (some ⟨b18, 0, none⟩) 32 32, VN 0]) rfl FRef13.call65 rfl (letheref13_key_ok (by exact (Bx.arr0 (n := 32) (cc := 32) 0 rfl (by omega) (by omega))) hr22 h21) ?_
  rintro _ w24 ⟨rfl, h24⟩
  refine ⟨_, rfl, .inl ⟨PIn.keep PIn.nil h24, ?_⟩⟩
  obtain ⟨x_26, hr25, hR⟩ := hR
  refine Plan.call (vs := [.slice (some ⟨b11, 0, none⟩) 32 32, VN 0]) rfl FRef13.call65 rfl (letheref13_key_ok (by exact (Bx.arr0 (n := 32) (cc := 32) 2 rfl (by omega) (by omega))) hr25 h24) ?_
  rintro _ w27 ⟨rfl, h27⟩
  refine ⟨_, rfl, .inl ⟨PIn.keep PIn.nil h27, ?_⟩⟩
  refine Plan.storeA (f' := fun q => VU .u8 (x_23 q)) h27 5 rfl rfl rfl rfl (fun _ _ => rfl) FRef13.sz61 rfl fun w28 h28 => ?_
  simp only [List.cons_append, List.nil_append, List.set_cons_zero, List.set_cons_succ] at h28
  refine Plan.storeA (f' := fun q => VU .u8 (x_26 q)) h28 4 rfl rfl rfl rfl (fun _ _ => rfl) FRef13.sz61 rfl fun w29 h29 => ?_
  simp only [List.cons_append, List.nil_append, List.set_cons_zero, List.set_cons_succ] at h29
  refine Plan.nil ?_
  refine hK20 _ _ ?_; clear hK20
  refine W.ret (finR_ret ?_)
  have h30 := St.pickT (C := [_, _, _, _, _, _, _]) h29 [] (by decide)
  simp only [pick, List.filterMap_cons, List.filterMap_nil, List.getElem?_cons_zero, List.getElem?_cons_succ, List.cons_append, List.nil_append] at h30
  subst r
  refine RetOk.mk (.agg h29 rfl (.cons 5 rfl .nil) FRef13.agg61 (.agg h29 rfl (.cons 4 rfl .nil) FRef13.agg61 .nil)) ?_
  exact ⟨rfl, h30⟩


set_option maxRecDepth 8000 in
set_option maxHeartbeats 1000000 in
theorem letheref13_Ahead_ok {B : Nat} {w0 w : World} {L : List Rg} {iG2 : Nat} (hG2 : L[iG2]? = some ⟨some 2, 0, 64, fun q => VU .u64 (K64 q), false⟩) {iG3 : Nat} (hG3 : L[iG3]? = some ⟨some 3, 0, 8, fun q => VU .u64 (H64 q), false⟩) {k1 : Nat → BitVec 8} {n_2 : Int} {r : ((Nat → BitVec 8) × (List (Nat → BitVec 8)) × Nat)} (hR : letheref13_Ahead k1 n_2 r) (HST : St B w0 (L) w) :
    Calls Tryd.prog 50 #[AG [(32, fun q => VU .u8 (k1 q))], .int .i64 n_2] w fun e w' => ∃ ay1 : Option Addr, ∃ py1 : Option Nat, ∃ ny1 : Nat, ∃ cy1 : Nat, ∃ Fy1 : Nat → Value, e = .returned (.tuple #[AG [(32, fun q => VU .u8 (r.1 q))], .slice ay1 ny1 cy1, VN r.2.2]) ∧ St B w0 (⟨py1, 0, cy1 * 32, Fy1, true⟩ :: L) w' ∧ LO D61 [] ay1 py1 ny1 cy1 Fy1 r.2.1 := by
  refine W.enter 35 Tryd.func50 rfl rfl rfl ?_
  unfold letheref13_Ahead at hR
  refine W.seq_k fun K3 hK3 => ?_
  refine W.regionT [(0, false), (1, false), (2, true), (3, true)] (by kernel_rfl) ?_
  refine Plan.boxA HST rfl rfl PIn.nil fun b4 w4 hb4 h4 => ?_
  simp only [rngs, Nat.zero_add, Nat.reduceAdd, List.cons_append, List.nil_append] at h4
  refine Plan.alloc h4 rfl FRef13.z61 PIn.nil fun b5 w5 hb5 h5 => ?_
  simp only [rngs, Nat.zero_add, Nat.reduceAdd, List.cons_append, List.nil_append] at h5
  refine Plan.assign_slice rfl rfl ?_
  refine Plan.assign_int rfl rfl ?_
  refine Plan.nil ?_
  refine hK3 _ _ ?_; clear hK3
  refine W.seq_k fun K6 hK6 => ?_
  refine W.seq_k fun K14 hK14 => ?_
  refine W.regionT [(0, true), (1, true), (2, true), (3, true), (4, true), (5, true)] (by kernel_rfl) ?_
  refine Plan.move_int rfl rfl ?_
  by_cases hc15 : n_2 < 0
  ·
    replace hR := ifT hR hc15
    refine Plan.cmpV (a := (n_2 : Int)) (b := (0 : Int)) (p := n_2 < 0) (v := true) rfl rfl rfl rfl icmp_lt (decide_eq_true hc15) ?_
    refine Plan.move_bool rfl rfl ?_
    refine Plan.passed rfl ?_
    refine Plan.passed rfl ?_
    refine Plan.pickTb rfl rfl rfl ?_
    refine Plan.nil ?_
    refine hK14 _ _ ?_; clear hK14
    refine W.condT rfl ?_
    refine W.seq_k fun K16 hK16 => ?_
    refine W.regionT [(0, true), (1, false), (2, true), (3, true)] (by kernel_rfl) ?_
    refine Plan.buildZ FRef13.row61 FRef13.z61 rfl ?_
    refine Plan.storeA (f' := fun q => VU .u8 ((fun _ => 0#8) q)) h5 0 rfl rfl rfl rfl (fun _ _ => rfl) FRef13.sz61 rfl fun w17 h17 => ?_
    simp only [List.cons_append, List.nil_append, List.set_cons_zero, List.set_cons_succ] at h17
    refine Plan.assign_slice rfl rfl ?_
    refine Plan.assign_int rfl rfl ?_
    refine Plan.nil ?_
    refine hK16 _ _ ?_; clear hK16
    refine W.ret (thenR_ret (finR_ret ?_))
    have h18 : St B w0 (⟨none, 0, 0 * 32, fun _ => undef, true⟩ :: _) _ := h17.nilE (fun _ => undef)
    have h19 := St.pickT (C := [_, _, _]) h18 [0] (by decide)
    simp only [pick, List.filterMap_cons, List.filterMap_nil, List.getElem?_cons_zero, List.getElem?_cons_succ, List.cons_append, List.nil_append] at h19
    subst r
    refine RetOk.mk (.agg h17 rfl (.cons 0 rfl .nil) FRef13.agg61 (.tmp_slice rfl (.tmp_int rfl .nil))) ?_
    exact ⟨none, none, 0, 0, (fun _ => undef), rfl, h19, LO.nil⟩
  ·
    replace hR := ifF hR hc15
    refine Plan.cmpV (a := (n_2 : Int)) (b := (0 : Int)) (p := n_2 < 0) (v := false) rfl rfl rfl rfl icmp_lt (decide_eq_false hc15) ?_
    refine Plan.move_bool rfl rfl ?_
    refine Plan.move_int rfl rfl ?_
    refine Plan.cmpP (a := (n_2 : Int)) (b := (256 : Int)) (p := 256 < n_2) rfl rfl rfl rfl icmp_gt ?_
    refine Plan.pickFb rfl rfl rfl ?_
    refine Plan.nil ?_
    refine hK14 _ _ ?_; clear hK14
    by_cases hc20 : 256 < n_2
    ·
      replace hR := ifT hR hc20
      refine W.condT (congrArg Value.bool (decide_eq_true hc20)) ?_
      refine W.seq_k fun K21 hK21 => ?_
      refine W.regionT [(0, true), (1, false), (2, true), (3, true)] (by kernel_rfl) ?_
      refine Plan.buildZ FRef13.row61 FRef13.z61 rfl ?_
      refine Plan.storeA (f' := fun q => VU .u8 ((fun _ => 0#8) q)) h5 0 rfl rfl rfl rfl (fun _ _ => rfl) FRef13.sz61 rfl fun w22 h22 => ?_
      simp only [List.cons_append, List.nil_append, List.set_cons_zero, List.set_cons_succ] at h22
      refine Plan.assign_slice rfl rfl ?_
      refine Plan.assign_int rfl rfl ?_
      refine Plan.nil ?_
      refine hK21 _ _ ?_; clear hK21
      refine W.ret (thenR_ret (finR_ret ?_))
      have h23 : St B w0 (⟨none, 0, 0 * 32, fun _ => undef, true⟩ :: _) _ := h22.nilE (fun _ => undef)
      have h24 := St.pickT (C := [_, _, _]) h23 [0] (by decide)
      simp only [pick, List.filterMap_cons, List.filterMap_nil, List.getElem?_cons_zero, List.getElem?_cons_succ, List.cons_append, List.nil_append] at h24
      subst r
      refine RetOk.mk (.agg h22 rfl (.cons 0 rfl .nil) FRef13.agg61 (.tmp_slice rfl (.tmp_int rfl .nil))) ?_
      exact ⟨none, none, 0, 0, (fun _ => undef), rfl, h24, LO.nil⟩
    ·
      replace hR := ifF hR hc20
      refine W.condF (congrArg Value.bool (decide_eq_false hc20)) ?_
      refine W.skip ?_
      refine hK6 _ _ ?_; clear hK6
      refine W.seq_k fun K25 hK25 => ?_
      refine W.regionT [(0, true)] (by kernel_rfl) ?_
      refine Plan.assign_slice rfl rfl ?_
      refine Plan.nil ?_
      refine hK25 _ _ ?_; clear hK25
      refine W.seq_k fun K26 hK26 => ?_
      refine W.seq_k fun K27 hK27 => ?_
      refine W.regionT [(0, true)] (by kernel_rfl) ?_
      refine Plan.assign_int rfl rfl ?_
      refine Plan.nil ?_
      refine hK27 _ _ ?_; clear hK27
      have h78 : St B w0 (⟨none, 0, 0 * 32, fun _ => undef, true⟩ :: _) _ := h5.nilE (fun _ => undef)
      obtain ⟨out75, m76, hI77, hR077⟩ := hR
      refine W.cutN (fun e w => ∃ y_out75 : List (Nat → BitVec 8), ∃ y_m76 : Nat → BitVec 8, (out75, m76) = (y_out75, y_m76) ∧ ∃ n_out75 : Nat, ∃ aout75 : Option Addr, ∃ pout75 : Option Nat, ∃ cout75 : Nat, ∃ Fout75 : Nat → Value, EnvHas e [(2, .pointer (some ⟨b4, 0, none⟩)), (4, .pointer (some ⟨b5, 0, none⟩)), (7, .slice aout75 n_out75 cout75)] ∧ St B w0 (⟨pout75, 0, cout75 * 32, Fout75, true⟩ :: ⟨some b5, 0, 32, fun q => VU .u8 ((fun _ => 0#8) q), true⟩ :: ⟨some b4, 0, 32, fun q => VU .u8 (y_m76 q), true⟩ :: L) w ∧ LO D61 [] aout75 pout75 n_out75 cout75 Fout75 y_out75) ?_ ?_
      ·
        refine W.block ?_
        refine W.iter hI77 (fun (s77 : ((List (Nat → BitVec 8)) × Nat × (Nat → BitVec 8))) e w => ∃ n_out71 : Nat, ∃ aout71 : Option Addr, ∃ pout71 : Option Nat, ∃ cout71 : Nat, ∃ Fout71 : Nat → Value, EnvHas e [(1, .int .i64 n_2), (2, .pointer (some ⟨b4, 0, none⟩)), (4, .pointer (some ⟨b5, 0, none⟩)), (7, .slice aout71 n_out71 cout71), (8, VN s77.2.1)] ∧ St B w0 (⟨pout71, 0, cout71 * 32, Fout71, true⟩ :: ⟨some b5, 0, 32, fun q => VU .u8 ((fun _ => 0#8) q), true⟩ :: ⟨some b4, 0, 32, fun q => VU .u8 (s77.2.2 q), true⟩ :: L) w ∧ LO D61 [] aout71 pout71 n_out71 cout71 Fout71 s77.1) ⟨0, none, none, 0, (fun _ => undef), (EnvHas.cons rfl (EnvHas.cons rfl (EnvHas.cons rfl (EnvHas.cons rfl (EnvHas.cons rfl EnvHas.nil))))), h78, LO.nil⟩ ?_
        rintro ⟨out71, i_73, m74⟩ o77 hR hx77 ev79 wl79 ⟨n_out71, aout71, pout71, cout71, Fout71, he79, h79, hout71⟩
        try dsimp only at he79 h79 hout71
        obtain rfl : List.length (α := (Nat → BitVec 8)) out71 = n_out71 := hout71.hl
        obtain ⟨ev79, rfl⟩ := he79.open
        unfold letheref13_Ahead_l0 at hR
        refine W.seq_k fun K80 hK80 => ?_
        refine W.seq_k fun K81 hK81 => ?_
        refine W.regionT [(0, true), (1, true), (2, true)] (by kernel_rfl) ?_
        refine Plan.move_int rfl rfl ?_
        refine Plan.move_int rfl rfl ?_
        refine Plan.cmpP (a := (((i_73 : Nat) : Int) : Int)) (b := (n_2 : Int)) (p := ((i_73 : Nat) : Int) < n_2) rfl rfl rfl rfl icmp_lt ?_
        refine Plan.nil ?_
        refine hK81 _ _ ?_; clear hK81
        by_cases hc82 : ((i_73 : Nat) : Int) < n_2
        ·
          replace hR := ifT hR hc82
          refine W.condT (congrArg Value.bool (decide_eq_true hc82)) ?_
          refine W.skip ?_
          refine hK80 _ _ ?_; clear hK80
          refine W.seq_k fun K83 hK83 => ?_
          refine W.block ?_
          refine W.seq_k fun K84 hK84 => ?_
          refine W.regionT [(0, true), (1, false), (2, true), (3, true), (4, true), (5, false), (6, false), (7, false), (8, false)] (by kernel_rfl) ?_
          refine Plan.loadA1 h79 2 rfl rfl rfl FRef13.agg61 ?_
          obtain ⟨x_86, x_87, hr85, hR⟩ := hR
          refine Plan.call (vs := [AG [(32, fun q => VU .u8 (m74 q))]]) rfl FRef13.call49 rfl (letheref13_Step_ok (iG2 := iG2 + 3) hG2 (iG3 := iG3 + 3) hG3 hr85 h79) ?_
          rintro _ w88 ⟨rfl, h88⟩
          refine ⟨_, rfl, .inr ⟨rfl, ?_⟩⟩
          refine Plan.move_tuple rfl rfl ?_
          refine Plan.extract_agg rfl rfl rfl ?_
          refine Plan.extract_agg rfl rfl rfl ?_
          refine Plan.alloc h88 rfl FRef13.z61 PIn.nil fun b89 w89 hb89 h89 => ?_
          simp only [rngs, Nat.zero_add, Nat.reduceAdd, List.cons_append, List.nil_append] at h89
          refine Plan.alloc h89 rfl FRef13.z61 PIn.nil fun b90 w90 hb90 h90 => ?_
          simp only [rngs, Nat.zero_add, Nat.reduceAdd, List.cons_append, List.nil_append] at h90
          refine Plan.storeA (f' := fun q => VU .u8 (x_86 q)) h90 1 rfl rfl rfl rfl (fun _ _ => rfl) FRef13.sz61 rfl fun w91 h91 => ?_
          simp only [List.cons_append, List.nil_append, List.set_cons_zero, List.set_cons_succ] at h91
          refine Plan.storeA (f' := fun q => VU .u8 (x_87 q)) h91 0 rfl rfl rfl rfl (fun _ _ => rfl) FRef13.sz61 rfl fun w92 h92 => ?_
          simp only [List.cons_append, List.nil_append, List.set_cons_zero, List.set_cons_succ] at h92
          refine Plan.nil ?_
          refine hK84 _ _ ?_; clear hK84
          refine W.seq_k fun K93 hK93 => ?_
          refine W.regionT [(0, true), (1, true), (2, false), (3, false), (4, true)] (by kernel_rfl) ?_
          refine Plan.move_slice rfl rfl ?_
          refine Plan.loadA1 h92 0 rfl rfl rfl FRef13.agg61 ?_
          refine Plan.buildLO (D := D61) (sz := 32) h92 [((), x_87)] FRef13.slu62 FRef13.sz61 FRef13.zv61 (by decide) (by decide) rfl rfl rfl rfl (fun _ _ => trivial) (EffO.wait rfl) fun b95 w95 F95 hb95 ho95 h95 => ?_
          replace ho95 : LO D61 [] (some ⟨b95, 0, none⟩) (some b95) ([x_87] : List (Nat → BitVec 8)).length 1 F95 ([x_87] : List (Nat → BitVec 8)) := ho95.re (fun _ _ h => h)
          obtain ⟨hc97, hR⟩ := hR
          refine Plan.appendLK (D := D61) (X := out71) (Y := ([x_87] : List (Nat → BitVec 8))) (sz := 32) h95 () (fun _ => 0#8) 3 D61_flat hout71 rfl FRef13.el62 rfl FRef13.slu62 rfl rfl rfl rfl (LO.lvf D61_flat ho95 0 rfl) hc97.1 hc97.2 (fun _ _ => EffO.keep .nil) fun a96 pb96 cap96 F96 r96 iz96 w96 ho96 hi96 hv96 h96 => ?_
          simp only [List.cons_append, List.nil_append, List.set_cons_zero, List.set_cons_succ] at h96 hv96
          refine Plan.assign_slice rfl rfl ?_
          refine Plan.nil ?_
          refine hK93 _ _ ?_; clear hK93
          refine W.regionT [(0, true), (1, false)] (by kernel_rfl) ?_
          refine Plan.loadA1 h96 3 rfl rfl rfl FRef13.agg61 ?_
          refine Plan.storeA (f' := fun q => VU .u8 (x_86 q)) h96 6 rfl rfl rfl rfl (fun _ _ => rfl) FRef13.sz61 rfl fun w98 h98 => ?_
          simp only [List.cons_append, List.nil_append, List.set_cons_zero, List.set_cons_succ] at h98
          refine Plan.nil ?_
          refine blockR_norm ?_
          refine hK83 _ _ ?_; clear hK83
          refine W.regionT [(0, true), (1, true), (2, true)] (by kernel_rfl) ?_
          refine Plan.move_int rfl rfl ?_
          refine Plan.addN (a := i_73) (b := 1) rfl rfl rfl (by omega) ?_
          refine Plan.assign_int rfl rfl ?_
          refine Plan.nil ?_
          have h99 := St.pickT (C := [_, _, _, _, _, _, _]) h98 [0, 5, 6] (by decide)
          simp only [pick, List.filterMap_cons, List.filterMap_nil, List.getElem?_cons_zero, List.getElem?_cons_succ, List.cons_append, List.nil_append] at h99
          exact iterR_norm ⟨_, hR, (out71 ++ ([x_87] : List (Nat → BitVec 8))).length, a96, pb96, cap96, F96, (EnvHas.cons rfl (EnvHas.cons rfl (EnvHas.cons rfl (EnvHas.cons rfl (EnvHas.cons rfl EnvHas.nil))))), h99, ho96⟩
        ·
          replace hR := ifF hR hc82
          refine W.condF (congrArg Value.bool (decide_eq_false hc82)) ?_
          refine W.exit (thenR_exit (iterR_exit (blockR_here ?_)))
          exact ⟨out71, m74, (hx77 _ hR).symm, out71.length, aout71, pout71, cout71, Fout71, (EnvHas.cons rfl (EnvHas.cons rfl (EnvHas.cons rfl EnvHas.nil))), h79, hout71⟩
      ·
        rintro ev100 wl100 ⟨y_out75, y_m76, hy100, n_out75, aout75, pout75, cout75, Fout75, he100, h100, hout75⟩
        obtain ⟨ev100, rfl⟩ := he100.open
        cases hy100
        replace hR := hR077
        obtain rfl : List.length (α := (Nat → BitVec 8)) out75 = n_out75 := hout75.hl
        refine hK26 _ _ ?_; clear hK26
        refine W.seq_k fun K101 hK101 => ?_
        refine W.regionT [(0, true), (1, true), (2, false), (3, true), (4, true)] (by kernel_rfl) ?_
        refine Plan.loadA1 h100 2 rfl rfl rfl FRef13.agg61 ?_
        refine Plan.move_slice rfl rfl ?_
        refine Plan.storeA (f' := fun q => VU .u8 (m76 q)) h100 1 rfl rfl rfl rfl (fun _ _ => rfl) FRef13.sz61 rfl fun w102 h102 => ?_
        simp only [List.cons_append, List.nil_append, List.set_cons_zero, List.set_cons_succ] at h102
        refine Plan.assign_slice rfl rfl ?_
        refine Plan.assign_int rfl rfl ?_
        refine Plan.nil ?_
        refine hK101 _ _ ?_; clear hK101
        refine W.ret (finR_ret ?_)
        have h103 := St.pickT (C := [_, _, _]) h102 [0] (by decide)
        simp only [pick, List.filterMap_cons, List.filterMap_nil, List.getElem?_cons_zero, List.getElem?_cons_succ, List.cons_append, List.nil_append] at h103
        subst r
        refine RetOk.mk (.agg h102 rfl (.cons 1 rfl .nil) FRef13.agg61 (.tmp_slice rfl (.tmp_int rfl .nil))) ?_
        exact ⟨aout75, pout75, out75.length, cout75, Fout75, rfl, h103, hout75⟩

end Go.Proofs.YtjdgbahjpdopbaaDoor
