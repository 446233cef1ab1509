/-
  WALKS of the package's functions, printed by this session's own program (auto.py).
-/
import Derived.Test.YtjblfkmmbpcpaaaDoorProg
import Derived.Test.YtjblfkmmbpcpaaaDoorLx7
import Derived.Test.YtjblfkmmbpcpaaaDoorRFieldRing
import Derived.Test.YtjblfkmmbpcpaaaDoorWField
namespace Go.Proofs.YtjblfkmmbpcpaaaDoor
set_option linter.unusedSimpArgs false
set_option linter.unusedVariables false
set_option linter.unusedSectionVars false
open Go Go.LW
theorem FFieldRing.z28 : zeroIs Tryd.prog 28 [(5, fun _ => VU .u64 0#64)] := zeroIs_agg (by kernel_rfl)
theorem FFieldRing.mixed : Tryd.prog.follows .mixedOrders = true := by kernel_rfl
theorem FFieldRing.agg23 : aggT Tryd.prog 23 32 = true := by kernel_rfl
theorem FFieldRing.sz28 : szT Tryd.prog 28 5 = true := by kernel_rfl
theorem FFieldRing.agg28 : aggT Tryd.prog 28 5 = true := by kernel_rfl
theorem FFieldRing.call12 : callB Tryd.prog 12 = true := by kernel_rfl
theorem FFieldRing.row28 : rowB Tryd.prog 28 = true := by kernel_rfl
theorem FFieldRing.call13 : callB Tryd.prog 13 = true := by kernel_rfl
theorem FFieldRing.call14 : callB Tryd.prog 14 = true := by kernel_rfl
theorem FFieldRing.call19 : callB Tryd.prog 19 = true := by kernel_rfl
theorem FFieldRing.arrI23 : arrIB Tryd.prog 23 32 .u8 = true := by kernel_rfl
theorem FFieldRing.call15 : callB Tryd.prog 15 = true := by kernel_rfl
theorem FFieldRing.call16 : callB Tryd.prog 16 = true := by kernel_rfl
theorem FFieldRing.call17 : callB Tryd.prog 17 = true := by kernel_rfl
theorem FFieldRing.call18 : callB Tryd.prog 18 = true := by kernel_rfl
theorem FFieldRing.bool4 : boolB Tryd.prog 4 = true := by kernel_rfl

set_option maxRecDepth 8000 in
set_option maxHeartbeats 1000000 in
theorem lethelaw06_FieldRing_ok {B : Nat} {w0 w : World} {L : List Rg} {iG0 : Nat} (hG0 : L[iG0]? = some ⟨some 0, 0, 5, fun q => VU .u64 (twice5 q), false⟩) {x_1 : Nat → BitVec 8} {y2 : Nat → BitVec 8} {z3 : Nat → BitVec 8} {r : Bool} (hR : lethelaw06_FieldRing x_1 y2 z3 r) (HST : St B w0 (L) w) :
    Calls Tryd.prog 3 #[AG [(32, fun q => VU .u8 (x_1 q))], AG [(32, fun q => VU .u8 (y2 q))], AG [(32, fun q => VU .u8 (z3 q))]] w fun e w' => e = .returned (.bool r) ∧ St B w0 (L) w' := by
  refine W.enter 164 Tryd.func3 rfl rfl rfl ?_
  unfold lethelaw06_FieldRing at hR
  refine W.seq_k fun K4 hK4 => ?_
  refine W.regionT [(0, false), (1, false), (2, false), (3, true)] (by kernel_rfl) ?_
  refine Plan.boxA HST rfl rfl PIn.nil fun b5 w5 hb5 h5 => ?_
  simp only [rngs, Nat.zero_add, Nat.reduceAdd, List.cons_append, List.nil_append] at h5
  refine Plan.boxA h5 rfl rfl PIn.nil fun b6 w6 hb6 h6 => ?_
  simp only [rngs, Nat.zero_add, Nat.reduceAdd, List.cons_append, List.nil_append] at h6
  refine Plan.boxA h6 rfl rfl PIn.nil fun b7 w7 hb7 h7 => ?_
  simp only [rngs, Nat.zero_add, Nat.reduceAdd, List.cons_append, List.nil_append] at h7
  refine Plan.assign_bool rfl rfl ?_
  refine Plan.nil ?_
  refine hK4 _ _ ?_; clear hK4
  refine W.seq_k fun K8 hK8 => ?_
  refine W.regionX (B := B) (w0 := w0) (L := L) FFieldRing.mixed [⟨6, 7, 28, [(5, fun q => VU .u64 ((fun _ => 0#64) q))]⟩, ⟨7, 8, 28, [(5, fun q => VU .u64 ((fun _ => 0#64) q))]⟩, ⟨8, 9, 28, [(5, fun q => VU .u64 ((fun _ => 0#64) q))]⟩] [(0, true), (2, true), (4, true)] [[(1, false)], [(3, false)], [(5, false)]] [(9, false), (10, false), (11, false)] (by kernel_rfl) (by kernel_rfl) (.cons FFieldRing.z28 (.cons FFieldRing.z28 (.cons FFieldRing.z28 .nil))) ?_
  have h9 := h7.drew
  refine Plan.loadA1 h9 2 rfl rfl rfl FFieldRing.agg23 ?_
  refine Plan.loadA1 h9 1 rfl rfl rfl FFieldRing.agg23 ?_
  refine Plan.loadA1 h9 0 rfl rfl rfl FFieldRing.agg23 ?_
  refine Plan.nil ⟨[_, _, _], h9, (PIn.cons 0 rfl (PIn.cons 1 rfl (PIn.cons 2 rfl PIn.nil))), ?_⟩
  refine PX.step fun C10 z10 w10 h10 => ?_
  simp only [List.cons_append, List.nil_append] at h10
  obtain ⟨x_12, hr11, hR⟩ := hR
  refine Plan.call (vs := [AG [(32, fun q => VU .u8 (x_1 q))]]) rfl FFieldRing.call12 rfl (field_Read_ok  hr11 h10) ?_
  rintro _ w13 ⟨rfl, h13⟩
  refine ⟨_, rfl, .inl ⟨PIn.keep (PIn.cons 0 rfl (PIn.cons 1 rfl (PIn.cons 2 rfl PIn.nil))) h13, ?_⟩⟩
  refine Plan.nil ⟨[_, _, _], h13, (PIn.cons 0 rfl (PIn.cons 1 rfl (PIn.cons 2 rfl PIn.nil))), ?_⟩
  refine PX.step fun C14 z14 w14 h14 => ?_
  simp only [List.cons_append, List.nil_append] at h14
  obtain ⟨x_16, hr15, hR⟩ := hR
  refine Plan.call (vs := [AG [(32, fun q => VU .u8 (y2 q))]]) rfl FFieldRing.call12 rfl (field_Read_ok  hr15 h14) ?_
  rintro _ w17 ⟨rfl, h17⟩
  refine ⟨_, rfl, .inl ⟨PIn.keep (PIn.cons 0 rfl (PIn.cons 1 rfl (PIn.cons 2 rfl PIn.nil))) h17, ?_⟩⟩
  refine Plan.nil ⟨[_, _, _], h17, (PIn.cons 0 rfl (PIn.cons 1 rfl (PIn.cons 2 rfl PIn.nil))), ?_⟩
  refine PX.step fun C18 z18 w18 h18 => ?_
  simp only [List.cons_append, List.nil_append] at h18
  obtain ⟨x_20, hr19, hR⟩ := hR
  refine Plan.call (vs := [AG [(32, fun q => VU .u8 (z3 q))]]) rfl FFieldRing.call12 rfl (field_Read_ok  hr19 h18) ?_
  rintro _ w21 ⟨rfl, h21⟩
  refine ⟨_, rfl, .inl ⟨PIn.keep (PIn.cons 0 rfl (PIn.cons 1 rfl (PIn.cons 2 rfl PIn.nil))) h21, ?_⟩⟩
  refine Plan.nil ⟨[_, _, _], h21, (PIn.cons 0 rfl (PIn.cons 1 rfl (PIn.cons 2 rfl PIn.nil))), ?_⟩
  refine PX.done (KE.step fun b22_6 => (KE.step fun b22_7 => (KE.step fun b22_8 => (KE.fin fun w22 h22 => ?_))))
  simp only [rngs, Nat.zero_add, Nat.reduceAdd, List.cons_append, List.nil_append] at h22
  refine Plan.storeP (ps := [(5, fun q => VU .u64 (x_12 q))]) h22 rfl rfl rfl (.cons 3 rfl .nil) ⟨fun _ _ => rfl, trivial⟩ FFieldRing.sz28 (EffO.keep (PIn.cons 0 rfl (PIn.cons 1 rfl (PIn.cons 2 rfl PIn.nil)))) fun w23 h23 => ?_
  simp only [List.cons_append, List.nil_append, List.set_cons_zero, List.set_cons_succ] at h23
  refine Plan.storeP (ps := [(5, fun q => VU .u64 (x_16 q))]) h23 rfl rfl rfl (.cons 4 rfl .nil) ⟨fun _ _ => rfl, trivial⟩ FFieldRing.sz28 (EffO.keep (PIn.cons 0 rfl (PIn.cons 1 rfl (PIn.cons 2 rfl PIn.nil)))) fun w24 h24 => ?_
  simp only [List.cons_append, List.nil_append, List.set_cons_zero, List.set_cons_succ] at h24
  refine Plan.storeA (f' := fun q => VU .u64 (x_20 q)) h24 5 rfl rfl rfl rfl (fun _ _ => rfl) FFieldRing.sz28 rfl fun w25 h25 => ?_
  simp only [List.cons_append, List.nil_append, List.set_cons_zero, List.set_cons_succ] at h25
  refine Plan.nil ?_
  refine hK8 _ _ ?_; clear hK8
  refine W.seq_k fun K26 hK26 => ?_
  refine W.regionT [(0, true), (1, false), (2, false), (3, false), (4, false), (5, false)] (by kernel_rfl) ?_
  refine Plan.buildZ FFieldRing.row28 FFieldRing.z28 rfl ?_
  obtain ⟨x_28, hr27, hR⟩ := hR
  refine Plan.call (vs := [VU .u32 (1#32)]) rfl FFieldRing.call13 rfl (field_Small_ok  hr27 h25) ?_
  rintro _ w29 ⟨rfl, h29⟩
  refine ⟨_, rfl, .inl ⟨PIn.keep PIn.nil h29, ?_⟩⟩
  refine Plan.alloc h29 rfl FFieldRing.z28 PIn.nil fun b30 w30 hb30 h30 => ?_
  simp only [rngs, Nat.zero_add, Nat.reduceAdd, List.cons_append, List.nil_append] at h30
  refine Plan.alloc h30 rfl FFieldRing.z28 PIn.nil fun b31 w31 hb31 h31 => ?_
  simp only [rngs, Nat.zero_add, Nat.reduceAdd, List.cons_append, List.nil_append] at h31
  refine Plan.storeA (f' := fun q => VU .u64 ((fun _ => 0#64) q)) h31 1 rfl rfl rfl rfl (fun _ _ => rfl) FFieldRing.sz28 rfl fun w32 h32 => ?_
  simp only [List.cons_append, List.nil_append, List.set_cons_zero, List.set_cons_succ] at h32
  refine Plan.storeA (f' := fun q => VU .u64 (x_28 q)) h32 0 rfl rfl rfl rfl (fun _ _ => rfl) FFieldRing.sz28 rfl fun w33 h33 => ?_
  simp only [List.cons_append, List.nil_append, List.set_cons_zero, List.set_cons_succ] at h33
  refine Plan.nil ?_
  refine hK26 _ _ ?_; clear hK26
  refine W.seq_k fun K34 hK34 => ?_
  refine W.seq_k fun K93 hK93 => ?_
  refine W.regionD FFieldRing.mixed [(0, true), (1, true), (3, true), (4, true), (2, false), (5, false), (6, false), (7, true), (8, true), (9, true), (10, true), (11, true), (14, true), (15, true), (17, true), (12, false), (13, false), (16, false), (18, false), (19, false), (20, true), (21, true), (22, true), (23, true), (24, true), (26, true), (27, true), (25, false), (28, false), (29, false), (30, true), (31, true), (32, true), (33, true), (34, true), (35, true), (38, true), (39, true), (41, true), (36, false), (37, false), (40, false), (42, false), (43, false), (44, true), (45, true)] (by kernel_rfl) ?_
  have h94 := h33.drew
  refine Plan.loadA1 h94 5 rfl rfl rfl FFieldRing.agg28 ?_
  refine Plan.loadA1 h94 6 rfl rfl rfl FFieldRing.agg28 ?_
  refine Plan.loadA1 h94 6 rfl rfl rfl FFieldRing.agg28 ?_
  refine Plan.loadA1 h94 5 rfl rfl rfl FFieldRing.agg28 ?_
  obtain ⟨x_96, hr95, hR⟩ := hR
  refine Plan.call (vs := [AG [(5, fun q => VU .u64 (x_12 q))], AG [(5, fun q => VU .u64 (x_16 q))]]) rfl FFieldRing.call14 rfl (field_Elem_Add_ok  hr95 h94) ?_
  rintro _ w97 ⟨rfl, h97⟩
  refine ⟨_, rfl, .inl ⟨PIn.keep (PIn.cons 5 rfl (PIn.cons 6 rfl (PIn.cons 6 rfl (PIn.cons 5 rfl PIn.nil)))) h97, ?_⟩⟩
  obtain ⟨x_99, hr98, hR⟩ := hR
  refine Plan.call (vs := [AG [(5, fun q => VU .u64 (x_16 q))], AG [(5, fun q => VU .u64 (x_12 q))]]) rfl FFieldRing.call14 rfl (field_Elem_Add_ok  hr98 h97) ?_
  rintro _ w100 ⟨rfl, h100⟩
  refine ⟨_, rfl, .inl ⟨PIn.keep (PIn.cons 5 rfl (PIn.cons 6 rfl (PIn.cons 6 rfl (PIn.cons 5 rfl PIn.nil)))) h100, ?_⟩⟩
  obtain ⟨x_102, hr101, hR⟩ := hR
  refine Plan.call (vs := [AG [(5, fun q => VU .u64 (x_96 q))], AG [(5, fun q => VU .u64 (x_99 q))]]) rfl FFieldRing.call15 rfl (field_Elem_Equal_ok  hr101 h100) ?_
  rintro _ w103 ⟨rfl, h103⟩
  refine ⟨_, rfl, .inl ⟨PIn.keep (PIn.cons 5 rfl (PIn.cons 6 rfl (PIn.cons 6 rfl (PIn.cons 5 rfl PIn.nil)))) h103, ?_⟩⟩
  by_cases hc104 : x_102 = true
  ·
    replace hR := ifT hR hc104
    obtain rfl : x_102 = true := hc104
    refine Plan.notT rfl rfl ?_
    refine Plan.move_bool rfl rfl ?_
    refine Plan.loadA1 h103 5 rfl rfl rfl FFieldRing.agg28 ?_
    refine Plan.loadA1 h103 6 rfl rfl rfl FFieldRing.agg28 ?_
    refine Plan.loadA1 h103 7 rfl rfl rfl FFieldRing.agg28 ?_
    refine Plan.loadA1 h103 5 rfl rfl rfl FFieldRing.agg28 ?_
    refine Plan.loadA1 h103 6 rfl rfl rfl FFieldRing.agg28 ?_
    refine Plan.loadA1 h103 7 rfl rfl rfl FFieldRing.agg28 ?_
    obtain ⟨x_106, hr105, hR⟩ := hR
    refine Plan.call (vs := [AG [(5, fun q => VU .u64 (x_16 q))], AG [(5, fun q => VU .u64 (x_20 q))]]) rfl FFieldRing.call14 rfl (field_Elem_Add_ok  hr105 h103) ?_
    rintro _ w107 ⟨rfl, h107⟩
    refine ⟨_, rfl, .inl ⟨PIn.keep (PIn.cons 7 rfl (PIn.cons 6 rfl (PIn.cons 5 rfl (PIn.cons 7 rfl (PIn.cons 6 rfl (PIn.cons 5 rfl (PIn.cons 5 rfl (PIn.cons 6 rfl (PIn.cons 6 rfl (PIn.cons 5 rfl PIn.nil)))))))))) h107, ?_⟩⟩
    obtain ⟨x_109, hr108, hR⟩ := hR
    refine Plan.call (vs := [AG [(5, fun q => VU .u64 (x_12 q))], AG [(5, fun q => VU .u64 (x_106 q))]]) rfl FFieldRing.call14 rfl (field_Elem_Add_ok  hr108 h107) ?_
    rintro _ w110 ⟨rfl, h110⟩
    refine ⟨_, rfl, .inl ⟨PIn.keep (PIn.cons 7 rfl (PIn.cons 6 rfl (PIn.cons 5 rfl (PIn.cons 7 rfl (PIn.cons 6 rfl (PIn.cons 5 rfl (PIn.cons 5 rfl (PIn.cons 6 rfl (PIn.cons 6 rfl (PIn.cons 5 rfl PIn.nil)))))))))) h110, ?_⟩⟩
    obtain ⟨x_112, hr111, hR⟩ := hR
    refine Plan.call (vs := [AG [(5, fun q => VU .u64 (x_12 q))], AG [(5, fun q => VU .u64 (x_16 q))]]) rfl FFieldRing.call14 rfl (field_Elem_Add_ok  hr111 h110) ?_
    rintro _ w113 ⟨rfl, h113⟩
    refine ⟨_, rfl, .inl ⟨PIn.keep (PIn.cons 7 rfl (PIn.cons 6 rfl (PIn.cons 5 rfl (PIn.cons 7 rfl (PIn.cons 6 rfl (PIn.cons 5 rfl (PIn.cons 5 rfl (PIn.cons 6 rfl (PIn.cons 6 rfl (PIn.cons 5 rfl PIn.nil)))))))))) h113, ?_⟩⟩
    obtain ⟨x_115, hr114, hR⟩ := hR
    refine Plan.call (vs := [AG [(5, fun q => VU .u64 (x_112 q))], AG [(5, fun q => VU .u64 (x_20 q))]]) rfl FFieldRing.call14 rfl (field_Elem_Add_ok  hr114 h113) ?_
    rintro _ w116 ⟨rfl, h116⟩
    refine ⟨_, rfl, .inl ⟨PIn.keep (PIn.cons 7 rfl (PIn.cons 6 rfl (PIn.cons 5 rfl (PIn.cons 7 rfl (PIn.cons 6 rfl (PIn.cons 5 rfl (PIn.cons 5 rfl (PIn.cons 6 rfl (PIn.cons 6 rfl (PIn.cons 5 rfl PIn.nil)))))))))) h116, ?_⟩⟩
    obtain ⟨x_118, hr117, hR⟩ := hR
    refine Plan.call (vs := [AG [(5, fun q => VU .u64 (x_109 q))], AG [(5, fun q => VU .u64 (x_115 q))]]) rfl FFieldRing.call15 rfl (field_Elem_Equal_ok  hr117 h116) ?_
    rintro _ w119 ⟨rfl, h119⟩
    refine ⟨_, rfl, .inl ⟨PIn.keep (PIn.cons 7 rfl (PIn.cons 6 rfl (PIn.cons 5 rfl (PIn.cons 7 rfl (PIn.cons 6 rfl (PIn.cons 5 rfl (PIn.cons 5 rfl (PIn.cons 6 rfl (PIn.cons 6 rfl (PIn.cons 5 rfl PIn.nil)))))))))) h119, ?_⟩⟩
    by_cases hc120 : x_118 = true
    ·
      replace hR := ifT hR hc120
      obtain rfl : x_118 = true := hc120
      refine Plan.notT rfl rfl ?_
      refine Plan.pickFb rfl rfl rfl ?_
      refine Plan.move_bool rfl rfl ?_
      refine Plan.loadA1 h119 5 rfl rfl rfl FFieldRing.agg28 ?_
      refine Plan.loadA1 h119 6 rfl rfl rfl FFieldRing.agg28 ?_
      refine Plan.loadA1 h119 6 rfl rfl rfl FFieldRing.agg28 ?_
      refine Plan.loadA1 h119 5 rfl rfl rfl FFieldRing.agg28 ?_
      obtain ⟨x_122, hr121, hR⟩ := hR
      refine Plan.call (vs := [AG [(5, fun q => VU .u64 (x_12 q))], AG [(5, fun q => VU .u64 (x_16 q))]]) rfl FFieldRing.call16 rfl (field_Elem_Mul_ok  hr121 h119) ?_
      rintro _ w123 ⟨rfl, h123⟩
      refine ⟨_, rfl, .inl ⟨PIn.keep (PIn.cons 5 rfl (PIn.cons 6 rfl (PIn.cons 6 rfl (PIn.cons 5 rfl (PIn.cons 7 rfl (PIn.cons 6 rfl (PIn.cons 5 rfl (PIn.cons 7 rfl (PIn.cons 6 rfl (PIn.cons 5 rfl (PIn.cons 5 rfl (PIn.cons 6 rfl (PIn.cons 6 rfl (PIn.cons 5 rfl PIn.nil)))))))))))))) h123, ?_⟩⟩
      obtain ⟨x_125, hr124, hR⟩ := hR
      refine Plan.call (vs := [AG [(5, fun q => VU .u64 (x_16 q))], AG [(5, fun q => VU .u64 (x_12 q))]]) rfl FFieldRing.call16 rfl (field_Elem_Mul_ok  hr124 h123) ?_
      rintro _ w126 ⟨rfl, h126⟩
      refine ⟨_, rfl, .inl ⟨PIn.keep (PIn.cons 5 rfl (PIn.cons 6 rfl (PIn.cons 6 rfl (PIn.cons 5 rfl (PIn.cons 7 rfl (PIn.cons 6 rfl (PIn.cons 5 rfl (PIn.cons 7 rfl (PIn.cons 6 rfl (PIn.cons 5 rfl (PIn.cons 5 rfl (PIn.cons 6 rfl (PIn.cons 6 rfl (PIn.cons 5 rfl PIn.nil)))))))))))))) h126, ?_⟩⟩
      obtain ⟨x_128, hr127, hR⟩ := hR
      refine Plan.call (vs := [AG [(5, fun q => VU .u64 (x_122 q))], AG [(5, fun q => VU .u64 (x_125 q))]]) rfl FFieldRing.call15 rfl (field_Elem_Equal_ok  hr127 h126) ?_
      rintro _ w129 ⟨rfl, h129⟩
      refine ⟨_, rfl, .inl ⟨PIn.keep (PIn.cons 5 rfl (PIn.cons 6 rfl (PIn.cons 6 rfl (PIn.cons 5 rfl (PIn.cons 7 rfl (PIn.cons 6 rfl (PIn.cons 5 rfl (PIn.cons 7 rfl (PIn.cons 6 rfl (PIn.cons 5 rfl (PIn.cons 5 rfl (PIn.cons 6 rfl (PIn.cons 6 rfl (PIn.cons 5 rfl PIn.nil)))))))))))))) h129, ?_⟩⟩
      by_cases hc130 : x_128 = true
      ·
        replace hR := ifT hR hc130
        obtain rfl : x_128 = true := hc130
        refine Plan.notT rfl rfl ?_
        refine Plan.pickFb rfl rfl rfl ?_
        refine Plan.move_bool rfl rfl ?_
        refine Plan.loadA1 h129 5 rfl rfl rfl FFieldRing.agg28 ?_
        refine Plan.loadA1 h129 6 rfl rfl rfl FFieldRing.agg28 ?_
        refine Plan.loadA1 h129 7 rfl rfl rfl FFieldRing.agg28 ?_
        refine Plan.loadA1 h129 5 rfl rfl rfl FFieldRing.agg28 ?_
        refine Plan.loadA1 h129 6 rfl rfl rfl FFieldRing.agg28 ?_
        refine Plan.loadA1 h129 7 rfl rfl rfl FFieldRing.agg28 ?_
        obtain ⟨x_132, hr131, hR⟩ := hR
        refine Plan.call (vs := [AG [(5, fun q => VU .u64 (x_16 q))], AG [(5, fun q => VU .u64 (x_20 q))]]) rfl FFieldRing.call16 rfl (field_Elem_Mul_ok  hr131 h129) ?_
        rintro _ w133 ⟨rfl, h133⟩
        refine ⟨_, rfl, .inl ⟨PIn.keep (PIn.cons 7 rfl (PIn.cons 6 rfl (PIn.cons 5 rfl (PIn.cons 7 rfl (PIn.cons 6 rfl (PIn.cons 5 rfl (PIn.cons 5 rfl (PIn.cons 6 rfl (PIn.cons 6 rfl (PIn.cons 5 rfl (PIn.cons 7 rfl (PIn.cons 6 rfl (PIn.cons 5 rfl (PIn.cons 7 rfl (PIn.cons 6 rfl (PIn.cons 5 rfl (PIn.cons 5 rfl (PIn.cons 6 rfl (PIn.cons 6 rfl (PIn.cons 5 rfl PIn.nil)))))))))))))))))))) h133, ?_⟩⟩
        obtain ⟨x_135, hr134, hR⟩ := hR
        refine Plan.call (vs := [AG [(5, fun q => VU .u64 (x_12 q))], AG [(5, fun q => VU .u64 (x_132 q))]]) rfl FFieldRing.call16 rfl (field_Elem_Mul_ok  hr134 h133) ?_
        rintro _ w136 ⟨rfl, h136⟩
        refine ⟨_, rfl, .inl ⟨PIn.keep (PIn.cons 7 rfl (PIn.cons 6 rfl (PIn.cons 5 rfl (PIn.cons 7 rfl (PIn.cons 6 rfl (PIn.cons 5 rfl (PIn.cons 5 rfl (PIn.cons 6 rfl (PIn.cons 6 rfl (PIn.cons 5 rfl (PIn.cons 7 rfl (PIn.cons 6 rfl (PIn.cons 5 rfl (PIn.cons 7 rfl (PIn.cons 6 rfl (PIn.cons 5 rfl (PIn.cons 5 rfl (PIn.cons 6 rfl (PIn.cons 6 rfl (PIn.cons 5 rfl PIn.nil)))))))))))))))))))) h136, ?_⟩⟩
        obtain ⟨x_138, hr137, hR⟩ := hR
        refine Plan.call (vs := [AG [(5, fun q => VU .u64 (x_12 q))], AG [(5, fun q => VU .u64 (x_16 q))]]) rfl FFieldRing.call16 rfl (field_Elem_Mul_ok  hr137 h136) ?_
        rintro _ w139 ⟨rfl, h139⟩
        refine ⟨_, rfl, .inl ⟨PIn.keep (PIn.cons 7 rfl (PIn.cons 6 rfl (PIn.cons 5 rfl (PIn.cons 7 rfl (PIn.cons 6 rfl (PIn.cons 5 rfl (PIn.cons 5 rfl (PIn.cons 6 rfl (PIn.cons 6 rfl (PIn.cons 5 rfl (PIn.cons 7 rfl (PIn.cons 6 rfl (PIn.cons 5 rfl (PIn.cons 7 rfl (PIn.cons 6 rfl (PIn.cons 5 rfl (PIn.cons 5 rfl (PIn.cons 6 rfl (PIn.cons 6 rfl (PIn.cons 5 rfl PIn.nil)))))))))))))))))))) h139, ?_⟩⟩
        obtain ⟨x_141, hr140, hR⟩ := hR
        refine Plan.call (vs := [AG [(5, fun q => VU .u64 (x_138 q))], AG [(5, fun q => VU .u64 (x_20 q))]]) rfl FFieldRing.call16 rfl (field_Elem_Mul_ok  hr140 h139) ?_
        rintro _ w142 ⟨rfl, h142⟩
        refine ⟨_, rfl, .inl ⟨PIn.keep (PIn.cons 7 rfl (PIn.cons 6 rfl (PIn.cons 5 rfl (PIn.cons 7 rfl (PIn.cons 6 rfl (PIn.cons 5 rfl (PIn.cons 5 rfl (PIn.cons 6 rfl (PIn.cons 6 rfl (PIn.cons 5 rfl (PIn.cons 7 rfl (PIn.cons 6 rfl (PIn.cons 5 rfl (PIn.cons 7 rfl (PIn.cons 6 rfl (PIn.cons 5 rfl (PIn.cons 5 rfl (PIn.cons 6 rfl (PIn.cons 6 rfl (PIn.cons 5 rfl PIn.nil)))))))))))))))))))) h142, ?_⟩⟩
        obtain ⟨x_144, hr143, hR⟩ := hR
        refine Plan.call (vs := [AG [(5, fun q => VU .u64 (x_135 q))], AG [(5, fun q => VU .u64 (x_141 q))]]) rfl FFieldRing.call15 rfl (field_Elem_Equal_ok  hr143 h142) ?_
        rintro _ w145 ⟨rfl, h145⟩
        refine ⟨_, rfl, .inl ⟨PIn.keep (PIn.cons 7 rfl (PIn.cons 6 rfl (PIn.cons 5 rfl (PIn.cons 7 rfl (PIn.cons 6 rfl (PIn.cons 5 rfl (PIn.cons 5 rfl (PIn.cons 6 rfl (PIn.cons 6 rfl (PIn.cons 5 rfl (PIn.cons 7 rfl (PIn.cons 6 rfl (PIn.cons 5 rfl (PIn.cons 7 rfl (PIn.cons 6 rfl (PIn.cons 5 rfl (PIn.cons 5 rfl (PIn.cons 6 rfl (PIn.cons 6 rfl (PIn.cons 5 rfl PIn.nil)))))))))))))))))))) h145, ?_⟩⟩
        refine Plan.not rfl rfl ?_
        refine Plan.pickFb rfl rfl rfl ?_
        refine Plan.nil ?_
        refine hK93 _ _ ?_; clear hK93
        by_cases hc146 : x_144 = true
        ·
          replace hR := ifT hR hc146
          refine W.condF (congrArg Value.bool (congrArg Bool.not hc146)) ?_
          refine W.skip ?_
          refine hK34 _ _ ?_; clear hK34
          refine W.seq_k fun K147 hK147 => ?_
          refine W.seq_k fun K190 hK190 => ?_
          refine W.regionD FFieldRing.mixed [(0, true), (1, true), (2, true), (5, true), (6, true), (8, true), (9, true), (3, false), (4, false), (7, false), (10, false), (11, false), (12, false), (13, true), (14, true), (15, true), (16, true), (17, true), (20, true), (21, true), (23, true), (24, true), (18, false), (19, false), (22, false), (25, false), (26, false), (27, false), (28, true), (29, true)] (by kernel_rfl) ?_
          have h191 := h145.drew
          refine Plan.loadA1 h191 5 rfl rfl rfl FFieldRing.agg28 ?_
          refine Plan.loadA1 h191 6 rfl rfl rfl FFieldRing.agg28 ?_
          refine Plan.loadA1 h191 7 rfl rfl rfl FFieldRing.agg28 ?_
          refine Plan.loadA1 h191 5 rfl rfl rfl FFieldRing.agg28 ?_
          refine Plan.loadA1 h191 6 rfl rfl rfl FFieldRing.agg28 ?_
          refine Plan.loadA1 h191 5 rfl rfl rfl FFieldRing.agg28 ?_
          refine Plan.loadA1 h191 7 rfl rfl rfl FFieldRing.agg28 ?_
          obtain ⟨x_193, hr192, hR⟩ := hR
          refine Plan.call (vs := [AG [(5, fun q => VU .u64 (x_16 q))], AG [(5, fun q => VU .u64 (x_20 q))]]) rfl FFieldRing.call14 rfl (field_Elem_Add_ok  hr192 h191) ?_
          rintro _ w194 ⟨rfl, h194⟩
          refine ⟨_, rfl, .inl ⟨PIn.keep (PIn.cons 7 rfl (PIn.cons 5 rfl (PIn.cons 6 rfl (PIn.cons 5 rfl (PIn.cons 7 rfl (PIn.cons 6 rfl (PIn.cons 5 rfl PIn.nil))))))) h194, ?_⟩⟩
          obtain ⟨x_196, hr195, hR⟩ := hR
          refine Plan.call (vs := [AG [(5, fun q => VU .u64 (x_12 q))], AG [(5, fun q => VU .u64 (x_193 q))]]) rfl FFieldRing.call16 rfl (field_Elem_Mul_ok  hr195 h194) ?_
          rintro _ w197 ⟨rfl, h197⟩
          refine ⟨_, rfl, .inl ⟨PIn.keep (PIn.cons 7 rfl (PIn.cons 5 rfl (PIn.cons 6 rfl (PIn.cons 5 rfl (PIn.cons 7 rfl (PIn.cons 6 rfl (PIn.cons 5 rfl PIn.nil))))))) h197, ?_⟩⟩
          obtain ⟨x_199, hr198, hR⟩ := hR
          refine Plan.call (vs := [AG [(5, fun q => VU .u64 (x_12 q))], AG [(5, fun q => VU .u64 (x_16 q))]]) rfl FFieldRing.call16 rfl (field_Elem_Mul_ok  hr198 h197) ?_
          rintro _ w200 ⟨rfl, h200⟩
          refine ⟨_, rfl, .inl ⟨PIn.keep (PIn.cons 7 rfl (PIn.cons 5 rfl (PIn.cons 6 rfl (PIn.cons 5 rfl (PIn.cons 7 rfl (PIn.cons 6 rfl (PIn.cons 5 rfl PIn.nil))))))) h200, ?_⟩⟩
          obtain ⟨x_202, hr201, hR⟩ := hR
          refine Plan.call (vs := [AG [(5, fun q => VU .u64 (x_12 q))], AG [(5, fun q => VU .u64 (x_20 q))]]) rfl FFieldRing.call16 rfl (field_Elem_Mul_ok  hr201 h200) ?_
          rintro _ w203 ⟨rfl, h203⟩
          refine ⟨_, rfl, .inl ⟨PIn.keep (PIn.cons 7 rfl (PIn.cons 5 rfl (PIn.cons 6 rfl (PIn.cons 5 rfl (PIn.cons 7 rfl (PIn.cons 6 rfl (PIn.cons 5 rfl PIn.nil))))))) h203, ?_⟩⟩
          obtain ⟨x_205, hr204, hR⟩ := hR
          refine Plan.call (vs := [AG [(5, fun q => VU .u64 (x_199 q))], AG [(5, fun q => VU .u64 (x_202 q))]]) rfl FFieldRing.call14 rfl (field_Elem_Add_ok  hr204 h203) ?_
          rintro _ w206 ⟨rfl, h206⟩
          refine ⟨_, rfl, .inl ⟨PIn.keep (PIn.cons 7 rfl (PIn.cons 5 rfl (PIn.cons 6 rfl (PIn.cons 5 rfl (PIn.cons 7 rfl (PIn.cons 6 rfl (PIn.cons 5 rfl PIn.nil))))))) h206, ?_⟩⟩
          obtain ⟨x_208, hr207, hR⟩ := hR
          refine Plan.call (vs := [AG [(5, fun q => VU .u64 (x_196 q))], AG [(5, fun q => VU .u64 (x_205 q))]]) rfl FFieldRing.call15 rfl (field_Elem_Equal_ok  hr207 h206) ?_
          rintro _ w209 ⟨rfl, h209⟩
          refine ⟨_, rfl, .inl ⟨PIn.keep (PIn.cons 7 rfl (PIn.cons 5 rfl (PIn.cons 6 rfl (PIn.cons 5 rfl (PIn.cons 7 rfl (PIn.cons 6 rfl (PIn.cons 5 rfl PIn.nil))))))) h209, ?_⟩⟩
          by_cases hc210 : x_208 = true
          ·
            replace hR := ifT hR hc210
            obtain rfl : x_208 = true := hc210
            refine Plan.notT rfl rfl ?_
            refine Plan.move_bool rfl rfl ?_
            refine Plan.loadA1 h209 5 rfl rfl rfl FFieldRing.agg28 ?_
            refine Plan.loadA1 h209 6 rfl rfl rfl FFieldRing.agg28 ?_
            refine Plan.loadA1 h209 7 rfl rfl rfl FFieldRing.agg28 ?_
            refine Plan.loadA1 h209 5 rfl rfl rfl FFieldRing.agg28 ?_
            refine Plan.loadA1 h209 6 rfl rfl rfl FFieldRing.agg28 ?_
            refine Plan.loadA1 h209 5 rfl rfl rfl FFieldRing.agg28 ?_
            refine Plan.loadA1 h209 7 rfl rfl rfl FFieldRing.agg28 ?_
            obtain ⟨x_212, hr211, hR⟩ := hR
            refine Plan.call (vs := [AG [(5, fun q => VU .u64 (x_16 q))], AG [(5, fun q => VU .u64 (x_20 q))]]) rfl FFieldRing.call17 rfl (field_Elem_Sub_ok (iG0 := iG0 + 8) hG0 hr211 h209) ?_
            rintro _ w213 ⟨rfl, h213⟩
            refine ⟨_, rfl, .inl ⟨PIn.keep (PIn.cons 7 rfl (PIn.cons 5 rfl (PIn.cons 6 rfl (PIn.cons 5 rfl (PIn.cons 7 rfl (PIn.cons 6 rfl (PIn.cons 5 rfl (PIn.cons 7 rfl (PIn.cons 5 rfl (PIn.cons 6 rfl (PIn.cons 5 rfl (PIn.cons 7 rfl (PIn.cons 6 rfl (PIn.cons 5 rfl PIn.nil)))))))))))))) h213, ?_⟩⟩
            obtain ⟨x_215, hr214, hR⟩ := hR
            refine Plan.call (vs := [AG [(5, fun q => VU .u64 (x_12 q))], AG [(5, fun q => VU .u64 (x_212 q))]]) rfl FFieldRing.call16 rfl (field_Elem_Mul_ok  hr214 h213) ?_
            rintro _ w216 ⟨rfl, h216⟩
            refine ⟨_, rfl, .inl ⟨PIn.keep (PIn.cons 7 rfl (PIn.cons 5 rfl (PIn.cons 6 rfl (PIn.cons 5 rfl (PIn.cons 7 rfl (PIn.cons 6 rfl (PIn.cons 5 rfl (PIn.cons 7 rfl (PIn.cons 5 rfl (PIn.cons 6 rfl (PIn.cons 5 rfl (PIn.cons 7 rfl (PIn.cons 6 rfl (PIn.cons 5 rfl PIn.nil)))))))))))))) h216, ?_⟩⟩
            obtain ⟨x_218, hr217, hR⟩ := hR
            refine Plan.call (vs := [AG [(5, fun q => VU .u64 (x_12 q))], AG [(5, fun q => VU .u64 (x_16 q))]]) rfl FFieldRing.call16 rfl (field_Elem_Mul_ok  hr217 h216) ?_
            rintro _ w219 ⟨rfl, h219⟩
            refine ⟨_, rfl, .inl ⟨PIn.keep (PIn.cons 7 rfl (PIn.cons 5 rfl (PIn.cons 6 rfl (PIn.cons 5 rfl (PIn.cons 7 rfl (PIn.cons 6 rfl (PIn.cons 5 rfl (PIn.cons 7 rfl (PIn.cons 5 rfl (PIn.cons 6 rfl (PIn.cons 5 rfl (PIn.cons 7 rfl (PIn.cons 6 rfl (PIn.cons 5 rfl PIn.nil)))))))))))))) h219, ?_⟩⟩
            obtain ⟨x_221, hr220, hR⟩ := hR
            refine Plan.call (vs := [AG [(5, fun q => VU .u64 (x_12 q))], AG [(5, fun q => VU .u64 (x_20 q))]]) rfl FFieldRing.call16 rfl (field_Elem_Mul_ok  hr220 h219) ?_
            rintro _ w222 ⟨rfl, h222⟩
            refine ⟨_, rfl, .inl ⟨PIn.keep (PIn.cons 7 rfl (PIn.cons 5 rfl (PIn.cons 6 rfl (PIn.cons 5 rfl (PIn.cons 7 rfl (PIn.cons 6 rfl (PIn.cons 5 rfl (PIn.cons 7 rfl (PIn.cons 5 rfl (PIn.cons 6 rfl (PIn.cons 5 rfl (PIn.cons 7 rfl (PIn.cons 6 rfl (PIn.cons 5 rfl PIn.nil)))))))))))))) h222, ?_⟩⟩
            obtain ⟨x_224, hr223, hR⟩ := hR
            refine Plan.call (vs := [AG [(5, fun q => VU .u64 (x_218 q))], AG [(5, fun q => VU .u64 (x_221 q))]]) rfl FFieldRing.call17 rfl (field_Elem_Sub_ok (iG0 := iG0 + 8) hG0 hr223 h222) ?_
            rintro _ w225 ⟨rfl, h225⟩
            refine ⟨_, rfl, .inl ⟨PIn.keep (PIn.cons 7 rfl (PIn.cons 5 rfl (PIn.cons 6 rfl (PIn.cons 5 rfl (PIn.cons 7 rfl (PIn.cons 6 rfl (PIn.cons 5 rfl (PIn.cons 7 rfl (PIn.cons 5 rfl (PIn.cons 6 rfl (PIn.cons 5 rfl (PIn.cons 7 rfl (PIn.cons 6 rfl (PIn.cons 5 rfl PIn.nil)))))))))))))) h225, ?_⟩⟩
            obtain ⟨x_227, hr226, hR⟩ := hR
            refine Plan.call (vs := [AG [(5, fun q => VU .u64 (x_215 q))], AG [(5, fun q => VU .u64 (x_224 q))]]) rfl FFieldRing.call15 rfl (field_Elem_Equal_ok  hr226 h225) ?_
            rintro _ w228 ⟨rfl, h228⟩
            refine ⟨_, rfl, .inl ⟨PIn.keep (PIn.cons 7 rfl (PIn.cons 5 rfl (PIn.cons 6 rfl (PIn.cons 5 rfl (PIn.cons 7 rfl (PIn.cons 6 rfl (PIn.cons 5 rfl (PIn.cons 7 rfl (PIn.cons 5 rfl (PIn.cons 6 rfl (PIn.cons 5 rfl (PIn.cons 7 rfl (PIn.cons 6 rfl (PIn.cons 5 rfl PIn.nil)))))))))))))) h228, ?_⟩⟩
            refine Plan.not rfl rfl ?_
            refine Plan.pickFb rfl rfl rfl ?_
            refine Plan.nil ?_
            refine hK190 _ _ ?_; clear hK190
            by_cases hc229 : x_227 = true
            ·
              replace hR := ifT hR hc229
              refine W.condF (congrArg Value.bool (congrArg Bool.not hc229)) ?_
              refine W.skip ?_
              refine hK147 _ _ ?_; clear hK147
              refine W.seq_k fun K230 hK230 => ?_
              refine W.seq_k fun K318 hK318 => ?_
              obtain ⟨t357, hX358, hR0358⟩ := hR
              refine W.cutN (fun e w => ∃ y_t357 : Bool, (t357 = y_t357) ∧ EnvHas e [(7, .pointer (some ⟨b22_6, 0, none⟩)), (8, .pointer (some ⟨b22_7, 0, none⟩)), (10, .pointer (some ⟨b30, 0, none⟩)), (11, .pointer (some ⟨b31, 0, none⟩)), (135, .bool y_t357)] ∧ St B w0 (⟨some b31, 0, 5, fun q => VU .u64 (x_28 q), true⟩ :: ⟨some b30, 0, 5, fun q => VU .u64 ((fun _ => 0#64) q), true⟩ :: ⟨some b22_6, 0, 5, fun q => VU .u64 (x_12 q), true⟩ :: ⟨some b22_7, 0, 5, fun q => VU .u64 (x_16 q), true⟩ :: L) w) ?_ ?_
              ·
                replace hR := hX358
                refine W.regionD FFieldRing.mixed [(0, true), (1, true), (3, true), (2, false), (4, false), (5, true), (6, true), (7, true), (8, true), (10, true), (9, false), (11, false), (12, true), (13, true), (14, true), (15, true), (16, true), (18, true), (17, false), (19, false), (20, true), (21, true), (22, true), (23, true), (24, true), (26, true), (28, true), (25, false), (27, false), (29, false), (30, true), (31, true), (32, true), (33, true), (34, true), (36, true), (35, false), (37, false), (38, true), (39, true)] (by kernel_rfl) ?_
                have h359 := h228.drew
                refine Plan.loadA1 h359 5 rfl rfl rfl FFieldRing.agg28 ?_
                refine Plan.loadA1 h359 1 rfl rfl rfl FFieldRing.agg28 ?_
                refine Plan.loadA1 h359 5 rfl rfl rfl FFieldRing.agg28 ?_
                obtain ⟨x_361, hr360, hR⟩ := hR
                refine Plan.call (vs := [AG [(5, fun q => VU .u64 (x_12 q))], AG [(5, fun q => VU .u64 ((fun _ => 0#64) q))]]) rfl FFieldRing.call14 rfl (field_Elem_Add_ok  hr360 h359) ?_
                rintro _ w362 ⟨rfl, h362⟩
                refine ⟨_, rfl, .inl ⟨PIn.keep (PIn.cons 5 rfl (PIn.cons 1 rfl (PIn.cons 5 rfl PIn.nil))) h362, ?_⟩⟩
                obtain ⟨x_364, hr363, hR⟩ := hR
                refine Plan.call (vs := [AG [(5, fun q => VU .u64 (x_361 q))], AG [(5, fun q => VU .u64 (x_12 q))]]) rfl FFieldRing.call15 rfl (field_Elem_Equal_ok  hr363 h362) ?_
                rintro _ w365 ⟨rfl, h365⟩
                refine ⟨_, rfl, .inl ⟨PIn.keep (PIn.cons 5 rfl (PIn.cons 1 rfl (PIn.cons 5 rfl PIn.nil))) h365, ?_⟩⟩
                by_cases hc366 : x_364 = true
                ·
                  replace hR := ifT hR hc366
                  obtain rfl : x_364 = true := hc366
                  refine Plan.notT rfl rfl ?_
                  refine Plan.move_bool rfl rfl ?_
                  refine Plan.loadA1 h365 5 rfl rfl rfl FFieldRing.agg28 ?_
                  refine Plan.loadA1 h365 0 rfl rfl rfl FFieldRing.agg28 ?_
                  refine Plan.loadA1 h365 5 rfl rfl rfl FFieldRing.agg28 ?_
                  obtain ⟨x_368, hr367, hR⟩ := hR
                  refine Plan.call (vs := [AG [(5, fun q => VU .u64 (x_12 q))], AG [(5, fun q => VU .u64 (x_28 q))]]) rfl FFieldRing.call16 rfl (field_Elem_Mul_ok  hr367 h365) ?_
                  rintro _ w369 ⟨rfl, h369⟩
                  refine ⟨_, rfl, .inl ⟨PIn.keep (PIn.cons 5 rfl (PIn.cons 0 rfl (PIn.cons 5 rfl (PIn.cons 5 rfl (PIn.cons 1 rfl (PIn.cons 5 rfl PIn.nil)))))) h369, ?_⟩⟩
                  obtain ⟨x_371, hr370, hR⟩ := hR
                  refine Plan.call (vs := [AG [(5, fun q => VU .u64 (x_368 q))], AG [(5, fun q => VU .u64 (x_12 q))]]) rfl FFieldRing.call15 rfl (field_Elem_Equal_ok  hr370 h369) ?_
                  rintro _ w372 ⟨rfl, h372⟩
                  refine ⟨_, rfl, .inl ⟨PIn.keep (PIn.cons 5 rfl (PIn.cons 0 rfl (PIn.cons 5 rfl (PIn.cons 5 rfl (PIn.cons 1 rfl (PIn.cons 5 rfl PIn.nil)))))) h372, ?_⟩⟩
                  by_cases hc373 : x_371 = true
                  ·
                    replace hR := ifT hR hc373
                    obtain rfl : x_371 = true := hc373
                    refine Plan.notT rfl rfl ?_
                    refine Plan.pickFb rfl rfl rfl ?_
                    refine Plan.move_bool rfl rfl ?_
                    refine Plan.loadA1 h372 5 rfl rfl rfl FFieldRing.agg28 ?_
                    refine Plan.loadA1 h372 1 rfl rfl rfl FFieldRing.agg28 ?_
                    refine Plan.loadA1 h372 1 rfl rfl rfl FFieldRing.agg28 ?_
                    obtain ⟨x_375, hr374, hR⟩ := hR
                    refine Plan.call (vs := [AG [(5, fun q => VU .u64 (x_12 q))], AG [(5, fun q => VU .u64 ((fun _ => 0#64) q))]]) rfl FFieldRing.call16 rfl (field_Elem_Mul_ok  hr374 h372) ?_
                    rintro _ w376 ⟨rfl, h376⟩
                    refine ⟨_, rfl, .inl ⟨PIn.keep (PIn.cons 1 rfl (PIn.cons 1 rfl (PIn.cons 5 rfl (PIn.cons 5 rfl (PIn.cons 0 rfl (PIn.cons 5 rfl (PIn.cons 5 rfl (PIn.cons 1 rfl (PIn.cons 5 rfl PIn.nil))))))))) h376, ?_⟩⟩
                    obtain ⟨x_378, hr377, hR⟩ := hR
                    refine Plan.call (vs := [AG [(5, fun q => VU .u64 (x_375 q))], AG [(5, fun q => VU .u64 ((fun _ => 0#64) q))]]) rfl FFieldRing.call15 rfl (field_Elem_Equal_ok  hr377 h376) ?_
                    rintro _ w379 ⟨rfl, h379⟩
                    refine ⟨_, rfl, .inl ⟨PIn.keep (PIn.cons 1 rfl (PIn.cons 1 rfl (PIn.cons 5 rfl (PIn.cons 5 rfl (PIn.cons 0 rfl (PIn.cons 5 rfl (PIn.cons 5 rfl (PIn.cons 1 rfl (PIn.cons 5 rfl PIn.nil))))))))) h379, ?_⟩⟩
                    by_cases hc380 : x_378 = true
                    ·
                      replace hR := ifT hR hc380
                      obtain rfl : x_378 = true := hc380
                      refine Plan.notT rfl rfl ?_
                      refine Plan.pickFb rfl rfl rfl ?_
                      refine Plan.move_bool rfl rfl ?_
                      refine Plan.loadA1 h379 5 rfl rfl rfl FFieldRing.agg28 ?_
                      refine Plan.loadA1 h379 6 rfl rfl rfl FFieldRing.agg28 ?_
                      refine Plan.loadA1 h379 6 rfl rfl rfl FFieldRing.agg28 ?_
                      refine Plan.loadA1 h379 5 rfl rfl rfl FFieldRing.agg28 ?_
                      obtain ⟨x_382, hr381, hR⟩ := hR
                      refine Plan.call (vs := [AG [(5, fun q => VU .u64 (x_12 q))], AG [(5, fun q => VU .u64 (x_16 q))]]) rfl FFieldRing.call17 rfl (field_Elem_Sub_ok (iG0 := iG0 + 8) hG0 hr381 h379) ?_
                      rintro _ w383 ⟨rfl, h383⟩
                      refine ⟨_, rfl, .inl ⟨PIn.keep (PIn.cons 5 rfl (PIn.cons 6 rfl (PIn.cons 6 rfl (PIn.cons 5 rfl (PIn.cons 1 rfl (PIn.cons 1 rfl (PIn.cons 5 rfl (PIn.cons 5 rfl (PIn.cons 0 rfl (PIn.cons 5 rfl (PIn.cons 5 rfl (PIn.cons 1 rfl (PIn.cons 5 rfl PIn.nil))))))))))))) h383, ?_⟩⟩
                      obtain ⟨x_385, hr384, hR⟩ := hR
                      refine Plan.call (vs := [AG [(5, fun q => VU .u64 (x_382 q))], AG [(5, fun q => VU .u64 (x_16 q))]]) rfl FFieldRing.call14 rfl (field_Elem_Add_ok  hr384 h383) ?_
                      rintro _ w386 ⟨rfl, h386⟩
                      refine ⟨_, rfl, .inl ⟨PIn.keep (PIn.cons 5 rfl (PIn.cons 6 rfl (PIn.cons 6 rfl (PIn.cons 5 rfl (PIn.cons 1 rfl (PIn.cons 1 rfl (PIn.cons 5 rfl (PIn.cons 5 rfl (PIn.cons 0 rfl (PIn.cons 5 rfl (PIn.cons 5 rfl (PIn.cons 1 rfl (PIn.cons 5 rfl PIn.nil))))))))))))) h386, ?_⟩⟩
                      obtain ⟨x_388, hr387, hR⟩ := hR
                      refine Plan.call (vs := [AG [(5, fun q => VU .u64 (x_385 q))], AG [(5, fun q => VU .u64 (x_12 q))]]) rfl FFieldRing.call15 rfl (field_Elem_Equal_ok  hr387 h386) ?_
                      rintro _ w389 ⟨rfl, h389⟩
                      refine ⟨_, rfl, .inl ⟨PIn.keep (PIn.cons 5 rfl (PIn.cons 6 rfl (PIn.cons 6 rfl (PIn.cons 5 rfl (PIn.cons 1 rfl (PIn.cons 1 rfl (PIn.cons 5 rfl (PIn.cons 5 rfl (PIn.cons 0 rfl (PIn.cons 5 rfl (PIn.cons 5 rfl (PIn.cons 1 rfl (PIn.cons 5 rfl PIn.nil))))))))))))) h389, ?_⟩⟩
                      by_cases hc390 : x_388 = true
                      ·
                        replace hR := ifT hR hc390
                        obtain rfl : x_388 = true := hc390
                        refine Plan.notT rfl rfl ?_
                        refine Plan.pickFb rfl rfl rfl ?_
                        refine Plan.move_bool rfl rfl ?_
                        refine Plan.loadA1 h389 5 rfl rfl rfl FFieldRing.agg28 ?_
                        refine Plan.loadA1 h389 5 rfl rfl rfl FFieldRing.agg28 ?_
                        refine Plan.loadA1 h389 1 rfl rfl rfl FFieldRing.agg28 ?_
                        obtain ⟨x_392, hr391, hR⟩ := hR
                        refine Plan.call (vs := [AG [(5, fun q => VU .u64 (x_12 q))], AG [(5, fun q => VU .u64 (x_12 q))]]) rfl FFieldRing.call17 rfl (field_Elem_Sub_ok (iG0 := iG0 + 8) hG0 hr391 h389) ?_
                        rintro _ w393 ⟨rfl, h393⟩
                        refine ⟨_, rfl, .inl ⟨PIn.keep (PIn.cons 1 rfl (PIn.cons 5 rfl (PIn.cons 5 rfl (PIn.cons 5 rfl (PIn.cons 6 rfl (PIn.cons 6 rfl (PIn.cons 5 rfl (PIn.cons 1 rfl (PIn.cons 1 rfl (PIn.cons 5 rfl (PIn.cons 5 rfl (PIn.cons 0 rfl (PIn.cons 5 rfl (PIn.cons 5 rfl (PIn.cons 1 rfl (PIn.cons 5 rfl PIn.nil)))))))))))))))) h393, ?_⟩⟩
                        obtain ⟨x_395, hr394, hR⟩ := hR
                        refine Plan.call (vs := [AG [(5, fun q => VU .u64 (x_392 q))], AG [(5, fun q => VU .u64 ((fun _ => 0#64) q))]]) rfl FFieldRing.call15 rfl (field_Elem_Equal_ok  hr394 h393) ?_
                        rintro _ w396 ⟨rfl, h396⟩
                        refine ⟨_, rfl, .inl ⟨PIn.keep (PIn.cons 1 rfl (PIn.cons 5 rfl (PIn.cons 5 rfl (PIn.cons 5 rfl (PIn.cons 6 rfl (PIn.cons 6 rfl (PIn.cons 5 rfl (PIn.cons 1 rfl (PIn.cons 1 rfl (PIn.cons 5 rfl (PIn.cons 5 rfl (PIn.cons 0 rfl (PIn.cons 5 rfl (PIn.cons 5 rfl (PIn.cons 1 rfl (PIn.cons 5 rfl PIn.nil)))))))))))))))) h396, ?_⟩⟩
                        refine Plan.not rfl rfl ?_
                        refine Plan.pickFb rfl rfl rfl ?_
                        refine Plan.nil ?_
                        have h397 := St.pickT (C := [_, _, _, _, _, _, _, _]) h396 [0, 1, 5, 6] (by decide)
                        simp only [pick, List.filterMap_cons, List.filterMap_nil, List.getElem?_cons_zero, List.getElem?_cons_succ, List.cons_append, List.nil_append] at h397
                        exact ⟨(!x_395), hR, (EnvHas.cons rfl (EnvHas.cons rfl (EnvHas.cons rfl (EnvHas.cons rfl (EnvHas.cons rfl EnvHas.nil))))), h397⟩
                      ·
                        replace hR := ifF hR hc390
                        obtain rfl : x_388 = false := Bool.eq_false_iff.2 hc390
                        refine Plan.notF rfl rfl ?_
                        refine Plan.pickFb rfl rfl rfl ?_
                        refine Plan.move_bool rfl rfl ?_
                        refine Plan.passed rfl ?_
                        refine Plan.passed rfl ?_
                        refine Plan.passed rfl ?_
                        refine Plan.passed rfl ?_
                        refine Plan.passed rfl ?_
                        refine Plan.passed rfl ?_
                        refine Plan.pickTb rfl rfl rfl ?_
                        refine Plan.nil ?_
                        have h398 := St.pickT (C := [_, _, _, _, _, _, _, _]) h389 [0, 1, 5, 6] (by decide)
                        simp only [pick, List.filterMap_cons, List.filterMap_nil, List.getElem?_cons_zero, List.getElem?_cons_succ, List.cons_append, List.nil_append] at h398
                        exact ⟨true, hR, (EnvHas.cons rfl (EnvHas.cons rfl (EnvHas.cons rfl (EnvHas.cons rfl (EnvHas.cons rfl EnvHas.nil))))), h398⟩
                    ·
                      replace hR := ifF hR hc380
                      obtain rfl : x_378 = false := Bool.eq_false_iff.2 hc380
                      refine Plan.notF rfl rfl ?_
                      refine Plan.pickFb rfl rfl rfl ?_
                      refine Plan.move_bool rfl rfl ?_
                      refine Plan.passed rfl ?_
                      refine Plan.passed rfl ?_
                      refine Plan.passed rfl ?_
                      refine Plan.passed rfl ?_
                      refine Plan.passed rfl ?_
                      refine Plan.passed rfl ?_
                      refine Plan.passed rfl ?_
                      refine Plan.passed rfl ?_
                      refine Plan.pickTb rfl rfl rfl ?_
                      refine Plan.move_bool rfl rfl ?_
                      refine Plan.passed rfl ?_
                      refine Plan.passed rfl ?_
                      refine Plan.passed rfl ?_
                      refine Plan.passed rfl ?_
                      refine Plan.passed rfl ?_
                      refine Plan.passed rfl ?_
                      refine Plan.pickTb rfl rfl rfl ?_
                      refine Plan.nil ?_
                      have h399 := St.pickT (C := [_, _, _, _, _, _, _, _]) h379 [0, 1, 5, 6] (by decide)
                      simp only [pick, List.filterMap_cons, List.filterMap_nil, List.getElem?_cons_zero, List.getElem?_cons_succ, List.cons_append, List.nil_append] at h399
                      exact ⟨true, hR, (EnvHas.cons rfl (EnvHas.cons rfl (EnvHas.cons rfl (EnvHas.cons rfl (EnvHas.cons rfl EnvHas.nil))))), h399⟩
                  ·
                    replace hR := ifF hR hc373
                    obtain rfl : x_371 = false := Bool.eq_false_iff.2 hc373
                    refine Plan.notF rfl rfl ?_
                    refine Plan.pickFb rfl rfl rfl ?_
                    refine Plan.move_bool rfl rfl ?_
                    refine Plan.passed rfl ?_
                    refine Plan.passed rfl ?_
                    refine Plan.passed rfl ?_
                    refine Plan.passed rfl ?_
                    refine Plan.passed rfl ?_
                    refine Plan.passed rfl ?_
                    refine Plan.pickTb rfl rfl rfl ?_
                    refine Plan.move_bool rfl rfl ?_
                    refine Plan.passed rfl ?_
                    refine Plan.passed rfl ?_
                    refine Plan.passed rfl ?_
                    refine Plan.passed rfl ?_
                    refine Plan.passed rfl ?_
                    refine Plan.passed rfl ?_
                    refine Plan.passed rfl ?_
                    refine Plan.passed rfl ?_
                    refine Plan.pickTb rfl rfl rfl ?_
                    refine Plan.move_bool rfl rfl ?_
                    refine Plan.passed rfl ?_
                    refine Plan.passed rfl ?_
                    refine Plan.passed rfl ?_
                    refine Plan.passed rfl ?_
                    refine Plan.passed rfl ?_
                    refine Plan.passed rfl ?_
                    refine Plan.pickTb rfl rfl rfl ?_
                    refine Plan.nil ?_
                    have h400 := St.pickT (C := [_, _, _, _, _, _, _, _]) h372 [0, 1, 5, 6] (by decide)
                    simp only [pick, List.filterMap_cons, List.filterMap_nil, List.getElem?_cons_zero, List.getElem?_cons_succ, List.cons_append, List.nil_append] at h400
                    exact ⟨true, hR, (EnvHas.cons rfl (EnvHas.cons rfl (EnvHas.cons rfl (EnvHas.cons rfl (EnvHas.cons rfl EnvHas.nil))))), h400⟩
                ·
                  replace hR := ifF hR hc366
                  obtain rfl : x_364 = false := Bool.eq_false_iff.2 hc366
                  refine Plan.notF rfl rfl ?_
                  refine Plan.move_bool rfl rfl ?_
                  refine Plan.passed rfl ?_
                  refine Plan.passed rfl ?_
                  refine Plan.passed rfl ?_
                  refine Plan.passed rfl ?_
                  refine Plan.passed rfl ?_
                  refine Plan.passed rfl ?_
                  refine Plan.pickTb rfl rfl rfl ?_
                  refine Plan.move_bool rfl rfl ?_
                  refine Plan.passed rfl ?_
                  refine Plan.passed rfl ?_
                  refine Plan.passed rfl ?_
                  refine Plan.passed rfl ?_
                  refine Plan.passed rfl ?_
                  refine Plan.passed rfl ?_
                  refine Plan.pickTb rfl rfl rfl ?_
                  refine Plan.move_bool rfl rfl ?_
                  refine Plan.passed rfl ?_
                  refine Plan.passed rfl ?_
                  refine Plan.passed rfl ?_
                  refine Plan.passed rfl ?_
                  refine Plan.passed rfl ?_
                  refine Plan.passed rfl ?_
                  refine Plan.passed rfl ?_
                  refine Plan.passed rfl ?_
                  refine Plan.pickTb rfl rfl rfl ?_
                  refine Plan.move_bool rfl rfl ?_
                  refine Plan.passed rfl ?_
                  refine Plan.passed rfl ?_
                  refine Plan.passed rfl ?_
                  refine Plan.passed rfl ?_
                  refine Plan.passed rfl ?_
                  refine Plan.passed rfl ?_
                  refine Plan.pickTb rfl rfl rfl ?_
                  refine Plan.nil ?_
                  have h401 := St.pickT (C := [_, _, _, _, _, _, _, _]) h365 [0, 1, 5, 6] (by decide)
                  simp only [pick, List.filterMap_cons, List.filterMap_nil, List.getElem?_cons_zero, List.getElem?_cons_succ, List.cons_append, List.nil_append] at h401
                  exact ⟨true, hR, (EnvHas.cons rfl (EnvHas.cons rfl (EnvHas.cons rfl (EnvHas.cons rfl (EnvHas.cons rfl EnvHas.nil))))), h401⟩
              ·
                rintro ev402 wl402 ⟨y_t357, hy402_0, he402, h402⟩
                subst hy402_0
                obtain ⟨ev402, rfl⟩ := he402.open
                replace hR := hR0358
                refine hK318 _ _ ?_; clear hK318
                by_cases hc403 : t357 = true
                ·
                  replace hR := ifT hR hc403
                  refine W.condT (congrArg Value.bool hc403) ?_
                  refine W.seq_k fun K404 hK404 => ?_
                  refine W.regionT [(0, true)] (by kernel_rfl) ?_
                  refine Plan.assign_bool rfl rfl ?_
                  refine Plan.nil ?_
                  refine hK404 _ _ ?_; clear hK404
                  refine W.ret (thenR_ret (finR_ret ?_))
                  have h405 := St.pickT (C := [_, _, _, _]) h402 [] (by decide)
                  simp only [pick, List.filterMap_cons, List.filterMap_nil, List.getElem?_cons_zero, List.getElem?_cons_succ, List.cons_append, List.nil_append] at h405
                  subst r
                  refine RetOk.mk (.tmp_bool rfl .nil) ?_
                  exact ⟨rfl, h405⟩
                ·
                  replace hR := ifF hR hc403
                  refine W.condF (congrArg Value.bool (Bool.eq_false_iff.2 hc403)) ?_
                  refine W.skip ?_
                  refine hK230 _ _ ?_; clear hK230
                  refine W.seq_k fun K406 hK406 => ?_
                  refine W.regionD FFieldRing.mixed [(0, true), (2, true), (3, true), (1, false), (4, false), (5, false), (6, true), (7, true), (8, true), (9, false), (10, true), (11, true), (12, true), (13, true), (14, false), (15, false), (16, true), (17, true), (18, true), (19, true), (21, true), (23, true), (20, false), (22, false), (24, false), (25, true), (26, true), (27, true), (28, true)] (by kernel_rfl) ?_
                  have h407 := h402.drew
                  refine Plan.loadA1 h407 2 rfl rfl rfl FFieldRing.agg28 ?_
                  refine Plan.loadA1 h407 2 rfl rfl rfl FFieldRing.agg28 ?_
                  refine Plan.loadA1 h407 2 rfl rfl rfl FFieldRing.agg28 ?_
                  obtain ⟨x_409, hr408, hR⟩ := hR
                  refine Plan.call (vs := [AG [(5, fun q => VU .u64 (x_12 q))]]) rfl FFieldRing.call18 rfl (field_Elem_Square_ok  hr408 h407) ?_
                  rintro _ w410 ⟨rfl, h410⟩
                  refine ⟨_, rfl, .inl ⟨PIn.keep (PIn.cons 2 rfl (PIn.cons 2 rfl (PIn.cons 2 rfl PIn.nil))) h410, ?_⟩⟩
                  obtain ⟨x_412, hr411, hR⟩ := hR
                  refine Plan.call (vs := [AG [(5, fun q => VU .u64 (x_12 q))], AG [(5, fun q => VU .u64 (x_12 q))]]) rfl FFieldRing.call16 rfl (field_Elem_Mul_ok  hr411 h410) ?_
                  rintro _ w413 ⟨rfl, h413⟩
                  refine ⟨_, rfl, .inl ⟨PIn.keep (PIn.cons 2 rfl (PIn.cons 2 rfl (PIn.cons 2 rfl PIn.nil))) h413, ?_⟩⟩
                  obtain ⟨x_415, hr414, hR⟩ := hR
                  refine Plan.call (vs := [AG [(5, fun q => VU .u64 (x_409 q))], AG [(5, fun q => VU .u64 (x_412 q))]]) rfl FFieldRing.call15 rfl (field_Elem_Equal_ok  hr414 h413) ?_
                  rintro _ w416 ⟨rfl, h416⟩
                  refine ⟨_, rfl, .inl ⟨PIn.keep (PIn.cons 2 rfl (PIn.cons 2 rfl (PIn.cons 2 rfl PIn.nil))) h416, ?_⟩⟩
                  by_cases hc417 : x_415 = true
                  ·
                    replace hR := ifT hR hc417
                    obtain rfl : x_415 = true := hc417
                    refine Plan.move_bool rfl rfl ?_
                    refine Plan.loadA1 h416 0 rfl rfl rfl FFieldRing.agg28 ?_
                    refine Plan.loadA1 h416 1 rfl rfl rfl FFieldRing.agg28 ?_
                    obtain ⟨x_419, hr418, hR⟩ := hR
                    refine Plan.call (vs := [AG [(5, fun q => VU .u64 (x_28 q))], AG [(5, fun q => VU .u64 ((fun _ => 0#64) q))]]) rfl FFieldRing.call15 rfl (field_Elem_Equal_ok  hr418 h416) ?_
                    rintro _ w420 ⟨rfl, h420⟩
                    refine ⟨_, rfl, .inl ⟨PIn.keep (PIn.cons 1 rfl (PIn.cons 0 rfl (PIn.cons 2 rfl (PIn.cons 2 rfl (PIn.cons 2 rfl PIn.nil))))) h420, ?_⟩⟩
                    by_cases hc421 : x_419 = true
                    ·
                      replace hR := ifT hR hc421
                      obtain rfl : x_419 = true := hc421
                      refine Plan.notT rfl rfl ?_
                      refine Plan.pickTb rfl rfl rfl ?_
                      refine Plan.move_bool rfl rfl ?_
                      refine Plan.passed rfl ?_
                      refine Plan.passed rfl ?_
                      refine Plan.passed rfl ?_
                      refine Plan.pickFb rfl rfl rfl ?_
                      refine Plan.move_bool rfl rfl ?_
                      refine Plan.passed rfl ?_
                      refine Plan.passed rfl ?_
                      refine Plan.passed rfl ?_
                      refine Plan.passed rfl ?_
                      refine Plan.passed rfl ?_
                      refine Plan.passed rfl ?_
                      refine Plan.passed rfl ?_
                      refine Plan.passed rfl ?_
                      refine Plan.passed rfl ?_
                      refine Plan.pickFb rfl rfl rfl ?_
                      refine Plan.assign_bool rfl rfl ?_
                      refine Plan.nil ?_
                      refine hK406 _ _ ?_; clear hK406
                      refine W.ret (finR_ret ?_)
                      have h422 := St.pickT (C := [_, _, _, _]) h420 [] (by decide)
                      simp only [pick, List.filterMap_cons, List.filterMap_nil, List.getElem?_cons_zero, List.getElem?_cons_succ, List.cons_append, List.nil_append] at h422
                      subst r
                      refine RetOk.mk (.tmp_bool rfl .nil) ?_
                      exact ⟨rfl, h422⟩
                    ·
                      replace hR := ifF hR hc421
                      obtain rfl : x_419 = false := Bool.eq_false_iff.2 hc421
                      refine Plan.notF rfl rfl ?_
                      refine Plan.pickTb rfl rfl rfl ?_
                      refine Plan.move_bool rfl rfl ?_
                      refine Plan.loadA1 h420 1 rfl rfl rfl FFieldRing.agg28 ?_
                      obtain ⟨x_424, hr423, hR⟩ := hR
                      refine Plan.call (vs := [VU .u32 (0#32)]) rfl FFieldRing.call13 rfl (field_Small_ok  hr423 h420) ?_
                      rintro _ w425 ⟨rfl, h425⟩
                      refine ⟨_, rfl, .inl ⟨PIn.keep (PIn.cons 1 rfl (PIn.cons 1 rfl (PIn.cons 0 rfl (PIn.cons 2 rfl (PIn.cons 2 rfl (PIn.cons 2 rfl PIn.nil)))))) h425, ?_⟩⟩
                      obtain ⟨x_427, hr426, hR⟩ := hR
                      refine Plan.call (vs := [AG [(5, fun q => VU .u64 ((fun _ => 0#64) q))], AG [(5, fun q => VU .u64 (x_424 q))]]) rfl FFieldRing.call15 rfl (field_Elem_Equal_ok  hr426 h425) ?_
                      rintro _ w428 ⟨rfl, h428⟩
                      refine ⟨_, rfl, .inl ⟨PIn.keep (PIn.cons 1 rfl (PIn.cons 1 rfl (PIn.cons 0 rfl (PIn.cons 2 rfl (PIn.cons 2 rfl (PIn.cons 2 rfl PIn.nil)))))) h428, ?_⟩⟩
                      by_cases hc429 : x_427 = true
                      ·
                        replace hR := ifT hR hc429
                        obtain rfl : x_427 = true := hc429
                        refine Plan.pickTb rfl rfl rfl ?_
                        refine Plan.move_bool rfl rfl ?_
                        refine Plan.loadA1 h428 2 rfl rfl rfl FFieldRing.agg28 ?_
                        refine Plan.loadA1 h428 3 rfl rfl rfl FFieldRing.agg28 ?_
                        refine Plan.loadA1 h428 2 rfl rfl rfl FFieldRing.agg28 ?_
                        refine Plan.loadA1 h428 3 rfl rfl rfl FFieldRing.agg28 ?_
                        obtain ⟨x_431, hr430, hR⟩ := hR
                        refine Plan.call (vs := [AG [(5, fun q => VU .u64 (x_12 q))], AG [(5, fun q => VU .u64 (x_16 q))]]) rfl FFieldRing.call15 rfl (field_Elem_Equal_ok  hr430 h428) ?_
                        rintro _ w432 ⟨rfl, h432⟩
                        refine ⟨_, rfl, .inl ⟨PIn.keep (PIn.cons 3 rfl (PIn.cons 2 rfl (PIn.cons 3 rfl (PIn.cons 2 rfl (PIn.cons 1 rfl (PIn.cons 1 rfl (PIn.cons 0 rfl (PIn.cons 2 rfl (PIn.cons 2 rfl (PIn.cons 2 rfl PIn.nil)))))))))) h432, ?_⟩⟩
                        obtain ⟨x_434, hr433, hR⟩ := hR
                        refine Plan.call (vs := [AG [(5, fun q => VU .u64 (x_12 q))]]) rfl FFieldRing.call19 rfl (field_Elem_Bytes_ok  hr433 h432) ?_
                        rintro _ w435 ⟨rfl, h435⟩
                        refine ⟨_, rfl, .inl ⟨PIn.keep (PIn.cons 3 rfl (PIn.cons 2 rfl (PIn.cons 3 rfl (PIn.cons 2 rfl (PIn.cons 1 rfl (PIn.cons 1 rfl (PIn.cons 0 rfl (PIn.cons 2 rfl (PIn.cons 2 rfl (PIn.cons 2 rfl PIn.nil)))))))))) h435, ?_⟩⟩
                        obtain ⟨x_437, hr436, hR⟩ := hR
                        refine Plan.call (vs := [AG [(5, fun q => VU .u64 (x_16 q))]]) rfl FFieldRing.call19 rfl (field_Elem_Bytes_ok  hr436 h435) ?_
                        rintro _ w438 ⟨rfl, h438⟩
                        refine ⟨_, rfl, .inl ⟨PIn.keep (PIn.cons 3 rfl (PIn.cons 2 rfl (PIn.cons 3 rfl (PIn.cons 2 rfl (PIn.cons 1 rfl (PIn.cons 1 rfl (PIn.cons 0 rfl (PIn.cons 2 rfl (PIn.cons 2 rfl (PIn.cons 2 rfl PIn.nil)))))))))) h438, ?_⟩⟩
                        refine Plan.eqArrV (b := (eqB 32 x_434 x_437)) FFieldRing.arrI23 rfl rfl rfl rfl ?_
                        refine Plan.eqBoolV (v := (x_431 == (eqB 32 x_434 x_437))) FFieldRing.bool4 rfl rfl rfl rfl ?_
                        refine Plan.pickTb rfl rfl rfl ?_
                        refine Plan.assign_bool rfl rfl ?_
                        refine Plan.nil ?_
                        refine hK406 _ _ ?_; clear hK406
                        refine W.ret (finR_ret ?_)
                        have h439 := St.pickT (C := [_, _, _, _]) h438 [] (by decide)
                        simp only [pick, List.filterMap_cons, List.filterMap_nil, List.getElem?_cons_zero, List.getElem?_cons_succ, List.cons_append, List.nil_append] at h439
                        subst r
                        refine RetOk.mk (.tmp_bool rfl .nil) ?_
                        exact ⟨rfl, h439⟩
                      ·
                        replace hR := ifF hR hc429
                        obtain rfl : x_427 = false := Bool.eq_false_iff.2 hc429
                        refine Plan.pickTb rfl rfl rfl ?_
                        refine Plan.move_bool rfl rfl ?_
                        refine Plan.passed rfl ?_
                        refine Plan.passed rfl ?_
                        refine Plan.passed rfl ?_
                        refine Plan.passed rfl ?_
                        refine Plan.passed rfl ?_
                        refine Plan.passed rfl ?_
                        refine Plan.passed rfl ?_
                        refine Plan.passed rfl ?_
                        refine Plan.passed rfl ?_
                        refine Plan.pickFb rfl rfl rfl ?_
                        refine Plan.assign_bool rfl rfl ?_
                        refine Plan.nil ?_
                        refine hK406 _ _ ?_; clear hK406
                        refine W.ret (finR_ret ?_)
                        have h440 := St.pickT (C := [_, _, _, _]) h428 [] (by decide)
                        simp only [pick, List.filterMap_cons, List.filterMap_nil, List.getElem?_cons_zero, List.getElem?_cons_succ, List.cons_append, List.nil_append] at h440
                        subst r
                        refine RetOk.mk (.tmp_bool rfl .nil) ?_
                        exact ⟨rfl, h440⟩
                  ·
                    replace hR := ifF hR hc417
                    obtain rfl : x_415 = false := Bool.eq_false_iff.2 hc417
                    refine Plan.move_bool rfl rfl ?_
                    refine Plan.passed rfl ?_
                    refine Plan.passed rfl ?_
                    refine Plan.passed rfl ?_
                    refine Plan.passed rfl ?_
                    refine Plan.pickFb rfl rfl rfl ?_
                    refine Plan.move_bool rfl rfl ?_
                    refine Plan.passed rfl ?_
                    refine Plan.passed rfl ?_
                    refine Plan.passed rfl ?_
                    refine Plan.pickFb rfl rfl rfl ?_
                    refine Plan.move_bool rfl rfl ?_
                    refine Plan.passed rfl ?_
                    refine Plan.passed rfl ?_
                    refine Plan.passed rfl ?_
                    refine Plan.passed rfl ?_
                    refine Plan.passed rfl ?_
                    refine Plan.passed rfl ?_
                    refine Plan.passed rfl ?_
                    refine Plan.passed rfl ?_
                    refine Plan.passed rfl ?_
                    refine Plan.pickFb rfl rfl rfl ?_
                    refine Plan.assign_bool rfl rfl ?_
                    refine Plan.nil ?_
                    refine hK406 _ _ ?_; clear hK406
                    refine W.ret (finR_ret ?_)
                    have h441 := St.pickT (C := [_, _, _, _]) h416 [] (by decide)
                    simp only [pick, List.filterMap_cons, List.filterMap_nil, List.getElem?_cons_zero, List.getElem?_cons_succ, List.cons_append, List.nil_append] at h441
                    subst r
                    refine RetOk.mk (.tmp_bool rfl .nil) ?_
                    exact ⟨rfl, h441⟩
            ·
              replace hR := ifF hR hc229
              refine W.condT (congrArg Value.bool (congrArg Bool.not (Bool.eq_false_iff.2 hc229))) ?_
              refine W.seq_k fun K442 hK442 => ?_
              refine W.regionT [(0, true)] (by kernel_rfl) ?_
              refine Plan.assign_bool rfl rfl ?_
              refine Plan.nil ?_
              refine hK442 _ _ ?_; clear hK442
              refine W.ret (thenR_ret (finR_ret ?_))
              have h443 := St.pickT (C := [_, _, _, _, _, _, _, _]) h228 [] (by decide)
              simp only [pick, List.filterMap_cons, List.filterMap_nil, List.getElem?_cons_zero, List.getElem?_cons_succ, List.cons_append, List.nil_append] at h443
              subst r
              refine RetOk.mk (.tmp_bool rfl .nil) ?_
              exact ⟨rfl, h443⟩
          ·
            replace hR := ifF hR hc210
            obtain rfl : x_208 = false := Bool.eq_false_iff.2 hc210
            refine Plan.notF rfl rfl ?_
            refine Plan.move_bool rfl rfl ?_
            refine Plan.passed rfl ?_
            refine Plan.passed rfl ?_
            refine Plan.passed rfl ?_
            refine Plan.passed rfl ?_
            refine Plan.passed rfl ?_
            refine Plan.passed rfl ?_
            refine Plan.passed rfl ?_
            refine Plan.passed rfl ?_
            refine Plan.passed rfl ?_
            refine Plan.passed rfl ?_
            refine Plan.passed rfl ?_
            refine Plan.passed rfl ?_
            refine Plan.passed rfl ?_
            refine Plan.passed rfl ?_
            refine Plan.pickTb rfl rfl rfl ?_
            refine Plan.nil ?_
            refine hK190 _ _ ?_; clear hK190
            refine W.condT rfl ?_
            refine W.seq_k fun K444 hK444 => ?_
            refine W.regionT [(0, true)] (by kernel_rfl) ?_
            refine Plan.assign_bool rfl rfl ?_
            refine Plan.nil ?_
            refine hK444 _ _ ?_; clear hK444
            refine W.ret (thenR_ret (finR_ret ?_))
            have h445 := St.pickT (C := [_, _, _, _, _, _, _, _]) h209 [] (by decide)
            simp only [pick, List.filterMap_cons, List.filterMap_nil, List.getElem?_cons_zero, List.getElem?_cons_succ, List.cons_append, List.nil_append] at h445
            subst r
            refine RetOk.mk (.tmp_bool rfl .nil) ?_
            exact ⟨rfl, h445⟩
        ·
          replace hR := ifF hR hc146
          refine W.condT (congrArg Value.bool (congrArg Bool.not (Bool.eq_false_iff.2 hc146))) ?_
          refine W.seq_k fun K446 hK446 => ?_
          refine W.regionT [(0, true)] (by kernel_rfl) ?_
          refine Plan.assign_bool rfl rfl ?_
          refine Plan.nil ?_
          refine hK446 _ _ ?_; clear hK446
          refine W.ret (thenR_ret (finR_ret ?_))
          have h447 := St.pickT (C := [_, _, _, _, _, _, _, _]) h145 [] (by decide)
          simp only [pick, List.filterMap_cons, List.filterMap_nil, List.getElem?_cons_zero, List.getElem?_cons_succ, List.cons_append, List.nil_append] at h447
          subst r
          refine RetOk.mk (.tmp_bool rfl .nil) ?_
          exact ⟨rfl, h447⟩
      ·
        replace hR := ifF hR hc130
        obtain rfl : x_128 = false := Bool.eq_false_iff.2 hc130
        refine Plan.notF rfl rfl ?_
        refine Plan.pickFb rfl rfl rfl ?_
        refine Plan.move_bool rfl rfl ?_
        refine Plan.passed rfl ?_
        refine Plan.passed rfl ?_
        refine Plan.passed rfl ?_
        refine Plan.passed rfl ?_
        refine Plan.passed rfl ?_
        refine Plan.passed rfl ?_
        refine Plan.passed rfl ?_
        refine Plan.passed rfl ?_
        refine Plan.passed rfl ?_
        refine Plan.passed rfl ?_
        refine Plan.passed rfl ?_
        refine Plan.passed rfl ?_
        refine Plan.pickTb rfl rfl rfl ?_
        refine Plan.nil ?_
        refine hK93 _ _ ?_; clear hK93
        refine W.condT rfl ?_
        refine W.seq_k fun K448 hK448 => ?_
        refine W.regionT [(0, true)] (by kernel_rfl) ?_
        refine Plan.assign_bool rfl rfl ?_
        refine Plan.nil ?_
        refine hK448 _ _ ?_; clear hK448
        refine W.ret (thenR_ret (finR_ret ?_))
        have h449 := St.pickT (C := [_, _, _, _, _, _, _, _]) h129 [] (by decide)
        simp only [pick, List.filterMap_cons, List.filterMap_nil, List.getElem?_cons_zero, List.getElem?_cons_succ, List.cons_append, List.nil_append] at h449
        subst r
        refine RetOk.mk (.tmp_bool rfl .nil) ?_
        exact ⟨rfl, h449⟩
    ·
      replace hR := ifF hR hc120
      obtain rfl : x_118 = false := Bool.eq_false_iff.2 hc120
      refine Plan.notF rfl rfl ?_
      refine Plan.pickFb rfl rfl rfl ?_
      refine Plan.move_bool rfl rfl ?_
      refine Plan.passed rfl ?_
      refine Plan.passed rfl ?_
      refine Plan.passed rfl ?_
      refine Plan.passed rfl ?_
      refine Plan.passed rfl ?_
      refine Plan.passed rfl ?_
      refine Plan.passed rfl ?_
      refine Plan.passed rfl ?_
      refine Plan.pickTb rfl rfl rfl ?_
      refine Plan.move_bool rfl rfl ?_
      refine Plan.passed rfl ?_
      refine Plan.passed rfl ?_
      refine Plan.passed rfl ?_
      refine Plan.passed rfl ?_
      refine Plan.passed rfl ?_
      refine Plan.passed rfl ?_
      refine Plan.passed rfl ?_
      refine Plan.passed rfl ?_
      refine Plan.passed rfl ?_
      refine Plan.passed rfl ?_
      refine Plan.passed rfl ?_
      refine Plan.passed rfl ?_
      refine Plan.pickTb rfl rfl rfl ?_
      refine Plan.nil ?_
      refine hK93 _ _ ?_; clear hK93
      refine W.condT rfl ?_
      refine W.seq_k fun K450 hK450 => ?_
      refine W.regionT [(0, true)] (by kernel_rfl) ?_
      refine Plan.assign_bool rfl rfl ?_
      refine Plan.nil ?_
      refine hK450 _ _ ?_; clear hK450
      refine W.ret (thenR_ret (finR_ret ?_))
      have h451 := St.pickT (C := [_, _, _, _, _, _, _, _]) h119 [] (by decide)
      simp only [pick, List.filterMap_cons, List.filterMap_nil, List.getElem?_cons_zero, List.getElem?_cons_succ, List.cons_append, List.nil_append] at h451
      subst r
      refine RetOk.mk (.tmp_bool rfl .nil) ?_
      exact ⟨rfl, h451⟩
  ·
    replace hR := ifF hR hc104
    obtain rfl : x_102 = false := Bool.eq_false_iff.2 hc104
    refine Plan.notF rfl rfl ?_
    refine Plan.move_bool rfl rfl ?_
    refine Plan.passed rfl ?_
    refine Plan.passed rfl ?_
    refine Plan.passed rfl ?_
    refine Plan.passed rfl ?_
    refine Plan.passed rfl ?_
    refine Plan.passed rfl ?_
    refine Plan.passed rfl ?_
    refine Plan.passed rfl ?_
    refine Plan.passed rfl ?_
    refine Plan.passed rfl ?_
    refine Plan.passed rfl ?_
    refine Plan.passed rfl ?_
    refine Plan.pickTb rfl rfl rfl ?_
    refine Plan.move_bool rfl rfl ?_
    refine Plan.passed rfl ?_
    refine Plan.passed rfl ?_
    refine Plan.passed rfl ?_
    refine Plan.passed rfl ?_
    refine Plan.passed rfl ?_
    refine Plan.passed rfl ?_
    refine Plan.passed rfl ?_
    refine Plan.passed rfl ?_
    refine Plan.pickTb rfl rfl rfl ?_
    refine Plan.move_bool rfl rfl ?_
    refine Plan.passed rfl ?_
    refine Plan.passed rfl ?_
    refine Plan.passed rfl ?_
    refine Plan.passed rfl ?_
    refine Plan.passed rfl ?_
    refine Plan.passed rfl ?_
    refine Plan.passed rfl ?_
    refine Plan.passed rfl ?_
    refine Plan.passed rfl ?_
    refine Plan.passed rfl ?_
    refine Plan.passed rfl ?_
    refine Plan.passed rfl ?_
    refine Plan.pickTb rfl rfl rfl ?_
    refine Plan.nil ?_
    refine hK93 _ _ ?_; clear hK93
    refine W.condT rfl ?_
    refine W.seq_k fun K452 hK452 => ?_
    refine W.regionT [(0, true)] (by kernel_rfl) ?_
    refine Plan.assign_bool rfl rfl ?_
    refine Plan.nil ?_
    refine hK452 _ _ ?_; clear hK452
    refine W.ret (thenR_ret (finR_ret ?_))
    have h453 := St.pickT (C := [_, _, _, _, _, _, _, _]) h103 [] (by decide)
    simp only [pick, List.filterMap_cons, List.filterMap_nil, List.getElem?_cons_zero, List.getElem?_cons_succ, List.cons_append, List.nil_append] at h453
    subst r
    refine RetOk.mk (.tmp_bool rfl .nil) ?_
    exact ⟨rfl, h453⟩

end Go.Proofs.YtjblfkmmbpcpaaaDoor
