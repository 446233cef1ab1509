/-
  WALKS of the package's functions, printed by this session's own program (auto.py).
-/
import Derived.Test.YtjblfkmmbpcpaaaDoorProg
import Derived.Test.YtjblfkmmbpcpaaaDoorLx7
import Derived.Test.YtjblfkmmbpcpaaaDoorRFieldRoots
import Derived.Test.YtjblfkmmbpcpaaaDoorWField
namespace Go.Proofs.YtjblfkmmbpcpaaaDoor
set_option linter.unusedSimpArgs false
set_option linter.unusedVariables false
set_option linter.unusedSectionVars false
open Go Go.LW
theorem FFieldRoots.z28 : zeroIs Tryd.prog 28 [(5, fun _ => VU .u64 0#64)] := zeroIs_agg (by kernel_rfl)
theorem FFieldRoots.mixed : Tryd.prog.follows .mixedOrders = true := by kernel_rfl
theorem FFieldRoots.agg23 : aggT Tryd.prog 23 32 = true := by kernel_rfl
theorem FFieldRoots.sc5 : scalarT Tryd.prog 5 = true := by kernel_rfl
theorem FFieldRoots.sz28 : szT Tryd.prog 28 5 = true := by kernel_rfl
theorem FFieldRoots.agg28 : aggT Tryd.prog 28 5 = true := by kernel_rfl
theorem FFieldRoots.call12 : callB Tryd.prog 12 = true := by kernel_rfl
theorem FFieldRoots.row28 : rowB Tryd.prog 28 = true := by kernel_rfl
theorem FFieldRoots.call14 : callB Tryd.prog 14 = true := by kernel_rfl
theorem FFieldRoots.sz5 : szT Tryd.prog 5 1 = true := by kernel_rfl
theorem FFieldRoots.call19 : callB Tryd.prog 19 = true := by kernel_rfl
theorem FFieldRoots.call15 : callB Tryd.prog 15 = true := by kernel_rfl
theorem FFieldRoots.call16 : callB Tryd.prog 16 = true := by kernel_rfl
theorem FFieldRoots.call18 : callB Tryd.prog 18 = true := by kernel_rfl
theorem FFieldRoots.bool4 : boolB Tryd.prog 4 = true := by kernel_rfl
theorem FFieldRoots.isarr23 : Tryd.prog.underlying 23 = some (.array 32 5) := by kernel_rfl
theorem FFieldRoots.call20 : callB Tryd.prog 20 = true := by kernel_rfl

set_option maxRecDepth 8000 in
set_option maxHeartbeats 1000000 in
theorem lethelaw06_FieldRoots_ok {B : Nat} {w0 w : World} {L : List Rg} {iG0 : Nat} (hG0 : L[iG0]? = some ⟨some 0, 0, 5, fun q => VU .u64 (twice5 q), false⟩) {x_1 : Nat → BitVec 8} {y2 : Nat → BitVec 8} {r : Bool} (hR : lethelaw06_FieldRoots x_1 y2 r) (HST : St B w0 (L) w) :
    Calls Tryd.prog 4 #[AG [(32, fun q => VU .u8 (x_1 q))], AG [(32, fun q => VU .u8 (y2 q))]] w fun e w' => e = .returned (.bool r) ∧ St B w0 (L) w' := by
  refine W.enter 98 Tryd.func4 rfl rfl rfl ?_
  unfold lethelaw06_FieldRoots at hR
  refine W.seq_k fun K3 hK3 => ?_
  refine W.regionT [(0, false), (1, false), (2, true)] (by kernel_rfl) ?_
  refine Plan.boxA HST rfl rfl PIn.nil fun b4 w4 hb4 h4 => ?_
  simp only [rngs, Nat.zero_add, Nat.reduceAdd, List.cons_append, List.nil_append] at h4
  refine Plan.boxA h4 rfl rfl PIn.nil fun b5 w5 hb5 h5 => ?_
  simp only [rngs, Nat.zero_add, Nat.reduceAdd, List.cons_append, List.nil_append] at h5
  refine Plan.assign_bool rfl rfl ?_
  refine Plan.nil ?_
  refine hK3 _ _ ?_; clear hK3
  refine W.seq_k fun K6 hK6 => ?_
  refine W.regionT [(0, true), (1, false), (2, false), (3, false)] (by kernel_rfl) ?_
  refine Plan.loadA1 h5 1 rfl rfl rfl FFieldRoots.agg23 ?_
  obtain ⟨x_8, hr7, hR⟩ := hR
  refine Plan.call (vs := [AG [(32, fun q => VU .u8 (x_1 q))]]) rfl FFieldRoots.call12 rfl (field_Read_ok  hr7 h5) ?_
  rintro _ w9 ⟨rfl, h9⟩
  refine ⟨_, rfl, .inr ⟨rfl, ?_⟩⟩
  refine Plan.alloc h9 rfl FFieldRoots.z28 PIn.nil fun b10 w10 hb10 h10 => ?_
  simp only [rngs, Nat.zero_add, Nat.reduceAdd, List.cons_append, List.nil_append] at h10
  refine Plan.storeA (f' := fun q => VU .u64 (x_8 q)) h10 0 rfl rfl rfl rfl (fun _ _ => rfl) FFieldRoots.sz28 rfl fun w11 h11 => ?_
  simp only [List.cons_append, List.nil_append, List.set_cons_zero, List.set_cons_succ] at h11
  refine Plan.nil ?_
  refine hK6 _ _ ?_; clear hK6
  refine W.seq_k fun K12 hK12 => ?_
  refine W.regionT [(0, true), (1, false), (2, false), (3, true), (4, true), (5, true), (6, false), (7, false), (8, true)] (by kernel_rfl) ?_
  refine Plan.loadA1 h11 0 rfl rfl rfl FFieldRoots.agg28 ?_
  obtain ⟨x_14, hr13, hR⟩ := hR
  refine Plan.call (vs := [AG [(5, fun q => VU .u64 (x_8 q))]]) rfl FFieldRoots.call18 rfl (field_Elem_Square_ok  hr13 h11) ?_
  rintro _ w15 ⟨rfl, h15⟩
  refine ⟨_, rfl, .inr ⟨rfl, ?_⟩⟩
  obtain ⟨x_17, x_18, hr16, hR⟩ := hR
  refine Plan.call (vs := [AG [(5, fun q => VU .u64 (x_14 q))]]) rfl FFieldRoots.call20 rfl (field_Elem_Root_ok (iG0 := iG0 + 3) hG0 hr16 h15) ?_
  rintro _ w19 ⟨rfl, h19⟩
  refine ⟨_, rfl, .inl ⟨PIn.keep PIn.nil h19, ?_⟩⟩
  refine Plan.move_tuple rfl rfl ?_
  refine Plan.extract_agg rfl rfl rfl ?_
  refine Plan.extract_bool rfl rfl rfl ?_
  refine Plan.alloc h19 rfl FFieldRoots.z28 PIn.nil fun b20 w20 hb20 h20 => ?_
  simp only [rngs, Nat.zero_add, Nat.reduceAdd, List.cons_append, List.nil_append] at h20
  refine Plan.storeA (f' := fun q => VU .u64 (x_17 q)) h20 0 rfl rfl rfl rfl (fun _ _ => rfl) FFieldRoots.sz28 rfl fun w21 h21 => ?_
  simp only [List.cons_append, List.nil_append, List.set_cons_zero, List.set_cons_succ] at h21
  refine Plan.assign_bool rfl rfl ?_
  refine Plan.nil ?_
  refine hK12 _ _ ?_; clear hK12
  refine W.seq_k fun K22 hK22 => ?_
  obtain ⟨ok55, hX55, hR055⟩ := hR
  refine W.cutN (fun e w => (ok55 = true) ∧ EnvHas e [(3, .pointer (some ⟨b5, 0, none⟩)), (5, .pointer (some ⟨b10, 0, none⟩))] ∧ St B w0 (⟨some b10, 0, 5, fun q => VU .u64 (x_8 q), true⟩ :: ⟨some b5, 0, 32, fun q => VU .u8 (y2 q), true⟩ :: L) w) ?_ ?_
  ·
    replace hR := hX55
    refine W.seq_k fun K56 hK56 => ?_
    refine W.regionD FFieldRoots.mixed [(0, true), (1, true), (2, true), (3, true), (5, true), (4, false), (6, false), (7, false), (8, true), (9, true), (10, true), (11, true), (12, false), (13, true), (14, true), (15, true), (16, true), (17, true), (18, true), (19, true), (20, false), (21, true), (22, true), (23, true), (24, true), (26, true), (25, false), (27, false), (28, true), (29, true), (30, true)] (by kernel_rfl) ?_
    have h57 := h21.drew
    by_cases hc58 : x_18 = true
    ·
      replace hR := ifT hR hc58
      refine Plan.move_bool (b := true) rfl (congrArg Value.bool hc58) ?_
      refine Plan.notT rfl rfl ?_
      refine Plan.move_bool rfl rfl ?_
      refine Plan.loadA1 h57 0 rfl rfl rfl FFieldRoots.agg28 ?_
      refine Plan.loadA1 h57 1 rfl rfl rfl FFieldRoots.agg28 ?_
      obtain ⟨x_60, hr59, hR⟩ := hR
      refine Plan.call (vs := [AG [(5, fun q => VU .u64 (x_17 q))]]) rfl FFieldRoots.call18 rfl (field_Elem_Square_ok  hr59 h57) ?_
      rintro _ w61 ⟨rfl, h61⟩
      refine ⟨_, rfl, .inl ⟨PIn.keep (PIn.cons 1 rfl (PIn.cons 0 rfl PIn.nil)) h61, ?_⟩⟩
      obtain ⟨x_63, hr62, hR⟩ := hR
      refine Plan.call (vs := [AG [(5, fun q => VU .u64 (x_8 q))]]) rfl FFieldRoots.call18 rfl (field_Elem_Square_ok  hr62 h61) ?_
      rintro _ w64 ⟨rfl, h64⟩
      refine ⟨_, rfl, .inl ⟨PIn.keep (PIn.cons 1 rfl (PIn.cons 0 rfl PIn.nil)) h64, ?_⟩⟩
      obtain ⟨x_66, hr65, hR⟩ := hR
      refine Plan.call (vs := [AG [(5, fun q => VU .u64 (x_60 q))], AG [(5, fun q => VU .u64 (x_63 q))]]) rfl FFieldRoots.call15 rfl (field_Elem_Equal_ok  hr65 h64) ?_
      rintro _ w67 ⟨rfl, h67⟩
      refine ⟨_, rfl, .inl ⟨PIn.keep (PIn.cons 1 rfl (PIn.cons 0 rfl PIn.nil)) h67, ?_⟩⟩
      by_cases hc68 : x_66 = true
      ·
        replace hR := ifT hR hc68
        obtain rfl : x_66 = true := hc68
        refine Plan.notT rfl rfl ?_
        refine Plan.pickFb rfl rfl rfl ?_
        refine Plan.move_bool rfl rfl ?_
        refine Plan.loadA1 h67 0 rfl rfl rfl FFieldRoots.agg28 ?_
        obtain ⟨x_70, hr69, hR⟩ := hR
        refine Plan.call (vs := [AG [(5, fun q => VU .u64 (x_17 q))]]) rfl FFieldRoots.call19 rfl (field_Elem_Bytes_ok  hr69 h67) ?_
        rintro _ w71 ⟨rfl, h71⟩
        refine ⟨_, rfl, .inl ⟨PIn.keep (PIn.cons 0 rfl (PIn.cons 1 rfl (PIn.cons 0 rfl PIn.nil))) h71, ?_⟩⟩
        refine Plan.indexA (j := 0) FFieldRoots.isarr23 FFieldRoots.sz5 FFieldRoots.sc5 rfl rfl rfl (by omega) (by decide) ?_
        refine Plan.andU .u8 (X := (x_70 0)) (Y := 1#8) rfl rfl rfl ?_
        by_cases hc72 : ((x_70 0) &&& (1#8)) ≠ 0#8
        ·
          replace hR := ifT hR hc72
          refine Plan.cmpV (a := (((x_70 0) &&& (1#8)).toNat : Int)) (b := ((0#8).toNat : Int)) (p := ((x_70 0) &&& (1#8)) ≠ 0#8) (v := true) rfl rfl rfl rfl icmp_neU (decide_eq_true hc72) ?_
          refine Plan.pickFb rfl rfl rfl ?_
          refine Plan.move_bool rfl rfl ?_
          refine Plan.passed rfl ?_
          refine Plan.passed rfl ?_
          refine Plan.passed rfl ?_
          refine Plan.passed rfl ?_
          refine Plan.passed rfl ?_
          refine Plan.passed rfl ?_
          refine Plan.passed rfl ?_
          refine Plan.passed rfl ?_
          refine Plan.passed rfl ?_
          refine Plan.passed rfl ?_
          refine Plan.passed rfl ?_
          refine Plan.passed rfl ?_
          refine Plan.pickTb rfl rfl rfl ?_
          refine Plan.nil ?_
          refine hK56 _ _ ?_; clear hK56
          refine W.condT rfl ?_
          refine W.seq_k fun K73 hK73 => ?_
          refine W.regionT [(0, true)] (by kernel_rfl) ?_
          refine Plan.assign_bool rfl rfl ?_
          refine Plan.nil ?_
          refine hK73 _ _ ?_; clear hK73
          refine W.ret (thenR_ret (thenR_ret (finR_ret ?_)))
          have h74 := St.pickT (C := [_, _, _, _]) h71 [] (by decide)
          simp only [pick, List.filterMap_cons, List.filterMap_nil, List.getElem?_cons_zero, List.getElem?_cons_succ, List.cons_append, List.nil_append] at h74
          replace hR := hR.2
          subst r
          refine RetOk.mk (.tmp_bool rfl .nil) ?_
          exact ⟨rfl, h74⟩
        ·
          replace hR := ifF hR hc72
          refine Plan.cmpV (a := (((x_70 0) &&& (1#8)).toNat : Int)) (b := ((0#8).toNat : Int)) (p := ((x_70 0) &&& (1#8)) ≠ 0#8) (v := false) rfl rfl rfl rfl icmp_neU (decide_eq_false hc72) ?_
          refine Plan.pickFb rfl rfl rfl ?_
          refine Plan.move_bool rfl rfl ?_
          refine Plan.loadA1 h71 0 rfl rfl rfl FFieldRoots.agg28 ?_
          refine Plan.loadA1 h71 1 rfl rfl rfl FFieldRoots.agg28 ?_
          obtain ⟨x_76, hr75, hR⟩ := hR
          refine Plan.call (vs := [AG [(5, fun q => VU .u64 (x_17 q))], AG [(5, fun q => VU .u64 (x_8 q))]]) rfl FFieldRoots.call15 rfl (field_Elem_Equal_ok  hr75 h71) ?_
          rintro _ w77 ⟨rfl, h77⟩
          refine ⟨_, rfl, .inl ⟨PIn.keep (PIn.cons 1 rfl (PIn.cons 0 rfl (PIn.cons 0 rfl (PIn.cons 1 rfl (PIn.cons 0 rfl PIn.nil))))) h77, ?_⟩⟩
          by_cases hc78 : x_76 = true
          ·
            replace hR := ifT hR hc78
            obtain rfl : x_76 = true := hc78
            refine Plan.notT rfl rfl ?_
            refine Plan.move_bool rfl rfl ?_
            refine Plan.passed rfl ?_
            refine Plan.passed rfl ?_
            refine Plan.passed rfl ?_
            refine Plan.passed rfl ?_
            refine Plan.passed rfl ?_
            refine Plan.passed rfl ?_
            refine Plan.pickFb rfl rfl rfl ?_
            refine Plan.pickFb rfl rfl rfl ?_
            refine Plan.nil ?_
            refine hK56 _ _ ?_; clear hK56
            refine W.condF rfl ?_
            refine W.skip ?_
            have h79 := St.pickT (C := [_, _, _, _]) h77 [1, 2] (by decide)
            simp only [pick, List.filterMap_cons, List.filterMap_nil, List.getElem?_cons_zero, List.getElem?_cons_succ, List.cons_append, List.nil_append] at h79
            exact ⟨hR, (EnvHas.cons rfl (EnvHas.cons rfl EnvHas.nil)), h79⟩
          ·
            replace hR := ifF hR hc78
            obtain rfl : x_76 = false := Bool.eq_false_iff.2 hc78
            refine Plan.notF rfl rfl ?_
            refine Plan.move_bool rfl rfl ?_
            refine Plan.loadA1 h77 0 rfl rfl rfl FFieldRoots.agg28 ?_
            refine Plan.loadA1 h77 1 rfl rfl rfl FFieldRoots.agg28 ?_
            refine Plan.buildZ FFieldRoots.row28 FFieldRoots.z28 rfl ?_
            obtain ⟨x_81, hr80, hR⟩ := hR
            refine Plan.call (vs := [AG [(5, fun q => VU .u64 (x_17 q))], AG [(5, fun q => VU .u64 (x_8 q))]]) rfl FFieldRoots.call14 rfl (field_Elem_Add_ok  hr80 h77) ?_
            rintro _ w82 ⟨rfl, h82⟩
            refine ⟨_, rfl, .inl ⟨PIn.keep (PIn.cons 1 rfl (PIn.cons 0 rfl (PIn.cons 1 rfl (PIn.cons 0 rfl (PIn.cons 0 rfl (PIn.cons 1 rfl (PIn.cons 0 rfl PIn.nil))))))) h82, ?_⟩⟩
            obtain ⟨x_84, hr83, hR⟩ := hR
            refine Plan.call (vs := [AG [(5, fun q => VU .u64 (x_81 q))], AG [(5, fun q => VU .u64 ((fun _ => 0#64) q))]]) rfl FFieldRoots.call15 rfl (field_Elem_Equal_ok  hr83 h82) ?_
            rintro _ w85 ⟨rfl, h85⟩
            refine ⟨_, rfl, .inl ⟨PIn.keep (PIn.cons 1 rfl (PIn.cons 0 rfl (PIn.cons 1 rfl (PIn.cons 0 rfl (PIn.cons 0 rfl (PIn.cons 1 rfl (PIn.cons 0 rfl PIn.nil))))))) h85, ?_⟩⟩
            refine Plan.not rfl rfl ?_
            refine Plan.pickTb rfl rfl rfl ?_
            refine Plan.pickFb rfl rfl rfl ?_
            refine Plan.nil ?_
            refine hK56 _ _ ?_; clear hK56
            by_cases hc86 : x_84 = true
            ·
              replace hR := ifT hR hc86
              refine W.condF (congrArg Value.bool (congrArg Bool.not hc86)) ?_
              refine W.skip ?_
              have h87 := St.pickT (C := [_, _, _, _]) h85 [1, 2] (by decide)
              simp only [pick, List.filterMap_cons, List.filterMap_nil, List.getElem?_cons_zero, List.getElem?_cons_succ, List.cons_append, List.nil_append] at h87
              exact ⟨hR, (EnvHas.cons rfl (EnvHas.cons rfl EnvHas.nil)), h87⟩
            ·
              replace hR := ifF hR hc86
              refine W.condT (congrArg Value.bool (congrArg Bool.not (Bool.eq_false_iff.2 hc86))) ?_
              refine W.seq_k fun K88 hK88 => ?_
              refine W.regionT [(0, true)] (by kernel_rfl) ?_
              refine Plan.assign_bool rfl rfl ?_
              refine Plan.nil ?_
              refine hK88 _ _ ?_; clear hK88
              refine W.ret (thenR_ret (thenR_ret (finR_ret ?_)))
              have h89 := St.pickT (C := [_, _, _, _]) h85 [] (by decide)
              simp only [pick, List.filterMap_cons, List.filterMap_nil, List.getElem?_cons_zero, List.getElem?_cons_succ, List.cons_append, List.nil_append] at h89
              replace hR := hR.2
              subst r
              refine RetOk.mk (.tmp_bool rfl .nil) ?_
              exact ⟨rfl, h89⟩
      ·
        replace hR := ifF hR hc68
        obtain rfl : x_66 = false := Bool.eq_false_iff.2 hc68
        refine Plan.notF rfl rfl ?_
        refine Plan.pickFb rfl rfl rfl ?_
        refine Plan.move_bool rfl rfl ?_
        refine Plan.passed rfl ?_
        refine Plan.passed rfl ?_
        refine Plan.passed rfl ?_
        refine Plan.passed rfl ?_
        refine Plan.passed rfl ?_
        refine Plan.pickTb rfl rfl rfl ?_
        refine Plan.move_bool rfl rfl ?_
        refine Plan.passed rfl ?_
        refine Plan.passed rfl ?_
        refine Plan.passed rfl ?_
        refine Plan.passed rfl ?_
        refine Plan.passed rfl ?_
        refine Plan.passed rfl ?_
        refine Plan.passed rfl ?_
        refine Plan.passed rfl ?_
        refine Plan.passed rfl ?_
        refine Plan.passed rfl ?_
        refine Plan.passed rfl ?_
        refine Plan.passed rfl ?_
        refine Plan.pickTb rfl rfl rfl ?_
        refine Plan.nil ?_
        refine hK56 _ _ ?_; clear hK56
        refine W.condT rfl ?_
        refine W.seq_k fun K90 hK90 => ?_
        refine W.regionT [(0, true)] (by kernel_rfl) ?_
        refine Plan.assign_bool rfl rfl ?_
        refine Plan.nil ?_
        refine hK90 _ _ ?_; clear hK90
        refine W.ret (thenR_ret (thenR_ret (finR_ret ?_)))
        have h91 := St.pickT (C := [_, _, _, _]) h67 [] (by decide)
        simp only [pick, List.filterMap_cons, List.filterMap_nil, List.getElem?_cons_zero, List.getElem?_cons_succ, List.cons_append, List.nil_append] at h91
        replace hR := hR.2
        subst r
        refine RetOk.mk (.tmp_bool rfl .nil) ?_
        exact ⟨rfl, h91⟩
    ·
      replace hR := ifF hR hc58
      refine Plan.move_bool (b := false) rfl (congrArg Value.bool (Bool.eq_false_iff.2 hc58)) ?_
      refine Plan.notF rfl rfl ?_
      refine Plan.move_bool rfl rfl ?_
      refine Plan.passed rfl ?_
      refine Plan.passed rfl ?_
      refine Plan.passed rfl ?_
      refine Plan.passed rfl ?_
      refine Plan.passed rfl ?_
      refine Plan.passed rfl ?_
      refine Plan.pickTb rfl rfl rfl ?_
      refine Plan.move_bool rfl rfl ?_
      refine Plan.passed rfl ?_
      refine Plan.passed rfl ?_
      refine Plan.passed rfl ?_
      refine Plan.passed rfl ?_
      refine Plan.passed rfl ?_
      refine Plan.pickTb rfl rfl rfl ?_
      refine Plan.move_bool rfl rfl ?_
      refine Plan.passed rfl ?_
      refine Plan.passed rfl ?_
      refine Plan.passed rfl ?_
      refine Plan.passed rfl ?_
      refine Plan.passed rfl ?_
      refine Plan.passed rfl ?_
      refine Plan.passed rfl ?_
      refine Plan.passed rfl ?_
      refine Plan.passed rfl ?_
      refine Plan.passed rfl ?_
      refine Plan.passed rfl ?_
      refine Plan.passed rfl ?_
      refine Plan.pickTb rfl rfl rfl ?_
      refine Plan.nil ?_
      refine hK56 _ _ ?_; clear hK56
      refine W.condT rfl ?_
      refine W.seq_k fun K92 hK92 => ?_
      refine W.regionT [(0, true)] (by kernel_rfl) ?_
      refine Plan.assign_bool rfl rfl ?_
      refine Plan.nil ?_
      refine hK92 _ _ ?_; clear hK92
      refine W.ret (thenR_ret (thenR_ret (finR_ret ?_)))
      have h93 := St.pickT (C := [_, _, _, _]) h57 [] (by decide)
      simp only [pick, List.filterMap_cons, List.filterMap_nil, List.getElem?_cons_zero, List.getElem?_cons_succ, List.cons_append, List.nil_append] at h93
      replace hR := hR.2
      subst r
      refine RetOk.mk (.tmp_bool rfl .nil) ?_
      exact ⟨rfl, h93⟩
  ·
    rintro ev94 wl94 ⟨hy94_0, he94, h94⟩
    obtain ⟨ev94, rfl⟩ := he94.open
    replace hR := hR055 hy94_0
    refine hK22 _ _ ?_; clear hK22
    refine W.seq_k fun K95 hK95 => ?_
    refine W.regionT [(0, true), (1, false), (2, true), (3, true), (4, true), (5, false), (6, false), (7, true)] (by kernel_rfl) ?_
    refine Plan.loadA1 h94 0 rfl rfl rfl FFieldRoots.agg28 ?_
    obtain ⟨x_97, x_98, hr96, hR⟩ := hR
    refine Plan.call (vs := [AG [(5, fun q => VU .u64 (x_8 q))]]) rfl FFieldRoots.call20 rfl (field_Elem_Root_ok (iG0 := iG0 + 2) hG0 hr96 h94) ?_
    rintro _ w99 ⟨rfl, h99⟩
    refine ⟨_, rfl, .inr ⟨rfl, ?_⟩⟩
    refine Plan.move_tuple rfl rfl ?_
    refine Plan.extract_agg rfl rfl rfl ?_
    refine Plan.extract_bool rfl rfl rfl ?_
    refine Plan.alloc h99 rfl FFieldRoots.z28 PIn.nil fun b100 w100 hb100 h100 => ?_
    simp only [rngs, Nat.zero_add, Nat.reduceAdd, List.cons_append, List.nil_append] at h100
    refine Plan.storeA (f' := fun q => VU .u64 (x_97 q)) h100 0 rfl rfl rfl rfl (fun _ _ => rfl) FFieldRoots.sz28 rfl fun w101 h101 => ?_
    simp only [List.cons_append, List.nil_append, List.set_cons_zero, List.set_cons_succ] at h101
    refine Plan.assign_bool rfl rfl ?_
    refine Plan.nil ?_
    refine hK95 _ _ ?_; clear hK95
    refine W.seq_k fun K102 hK102 => ?_
    refine W.seq_k fun K103 hK103 => ?_
    refine W.regionT [(0, true)] (by kernel_rfl) ?_
    refine Plan.move_bool rfl rfl ?_
    refine Plan.nil ?_
    refine hK103 _ _ ?_; clear hK103
    by_cases hc104 : x_98 = true
    ·
      replace hR := ifT hR hc104
      refine W.condT (congrArg Value.bool hc104) ?_
      refine W.seq_k fun K105 hK105 => ?_
      refine W.regionD FFieldRoots.mixed [(0, true), (2, true), (1, false), (3, false), (4, true), (5, true), (6, false), (7, true), (8, true), (9, true), (10, true), (11, true)] (by kernel_rfl) ?_
      have h106 := h101.drew
      refine Plan.loadA1 h106 0 rfl rfl rfl FFieldRoots.agg28 ?_
      refine Plan.loadA1 h106 1 rfl rfl rfl FFieldRoots.agg28 ?_
      obtain ⟨x_108, hr107, hR⟩ := hR
      refine Plan.call (vs := [AG [(5, fun q => VU .u64 (x_97 q))]]) rfl FFieldRoots.call18 rfl (field_Elem_Square_ok  hr107 h106) ?_
      rintro _ w109 ⟨rfl, h109⟩
      refine ⟨_, rfl, .inl ⟨PIn.keep (PIn.cons 1 rfl (PIn.cons 0 rfl PIn.nil)) h109, ?_⟩⟩
      obtain ⟨x_111, hr110, hR⟩ := hR
      refine Plan.call (vs := [AG [(5, fun q => VU .u64 (x_108 q))], AG [(5, fun q => VU .u64 (x_8 q))]]) rfl FFieldRoots.call15 rfl (field_Elem_Equal_ok  hr110 h109) ?_
      rintro _ w112 ⟨rfl, h112⟩
      refine ⟨_, rfl, .inl ⟨PIn.keep (PIn.cons 1 rfl (PIn.cons 0 rfl PIn.nil)) h112, ?_⟩⟩
      by_cases hc113 : x_111 = true
      ·
        replace hR := ifT hR hc113
        obtain rfl : x_111 = true := hc113
        refine Plan.move_bool rfl rfl ?_
        refine Plan.loadA1 h112 0 rfl rfl rfl FFieldRoots.agg28 ?_
        obtain ⟨x_115, hr114, hR⟩ := hR
        refine Plan.call (vs := [AG [(5, fun q => VU .u64 (x_97 q))]]) rfl FFieldRoots.call19 rfl (field_Elem_Bytes_ok  hr114 h112) ?_
        rintro _ w116 ⟨rfl, h116⟩
        refine ⟨_, rfl, .inl ⟨PIn.keep (PIn.cons 0 rfl (PIn.cons 1 rfl (PIn.cons 0 rfl PIn.nil))) h116, ?_⟩⟩
        refine Plan.indexA (j := 0) FFieldRoots.isarr23 FFieldRoots.sz5 FFieldRoots.sc5 rfl rfl rfl (by omega) (by decide) ?_
        refine Plan.andU .u8 (X := (x_115 0)) (Y := 1#8) rfl rfl rfl ?_
        refine Plan.cmpP (a := (((x_115 0) &&& (1#8)).toNat : Int)) (b := ((0#8).toNat : Int)) (p := ((x_115 0) &&& (1#8)) = 0#8) rfl rfl rfl rfl icmp_eqU ?_
        refine Plan.pickTb rfl rfl rfl ?_
        refine Plan.assign_bool rfl rfl ?_
        refine Plan.nil ?_
        refine hK105 _ _ ?_; clear hK105
        refine W.ret (thenR_ret (finR_ret ?_))
        have h117 := St.pickT (C := [_, _, _]) h116 [] (by decide)
        simp only [pick, List.filterMap_cons, List.filterMap_nil, List.getElem?_cons_zero, List.getElem?_cons_succ, List.cons_append, List.nil_append] at h117
        subst r
        refine RetOk.mk (.tmp_bool rfl .nil) ?_
        exact ⟨rfl, h117⟩
      ·
        replace hR := ifF hR hc113
        obtain rfl : x_111 = false := Bool.eq_false_iff.2 hc113
        refine Plan.move_bool rfl rfl ?_
        refine Plan.passed rfl ?_
        refine Plan.passed rfl ?_
        refine Plan.passed rfl ?_
        refine Plan.passed rfl ?_
        refine Plan.passed rfl ?_
        refine Plan.pickFb rfl rfl rfl ?_
        refine Plan.assign_bool rfl rfl ?_
        refine Plan.nil ?_
        refine hK105 _ _ ?_; clear hK105
        refine W.ret (thenR_ret (finR_ret ?_))
        have h118 := St.pickT (C := [_, _, _]) h112 [] (by decide)
        simp only [pick, List.filterMap_cons, List.filterMap_nil, List.getElem?_cons_zero, List.getElem?_cons_succ, List.cons_append, List.nil_append] at h118
        subst r
        refine RetOk.mk (.tmp_bool rfl .nil) ?_
        exact ⟨rfl, h118⟩
    ·
      replace hR := ifF hR hc104
      refine W.condF (congrArg Value.bool (Bool.eq_false_iff.2 hc104)) ?_
      refine W.skip ?_
      refine hK102 _ _ ?_; clear hK102
      refine W.seq_k fun K119 hK119 => ?_
      refine W.regionT [(0, true), (1, false), (2, false), (3, false)] (by kernel_rfl) ?_
      refine Plan.loadA1 h101 2 rfl rfl rfl FFieldRoots.agg23 ?_
      obtain ⟨x_121, hr120, hR⟩ := hR
      refine Plan.call (vs := [AG [(32, fun q => VU .u8 (y2 q))]]) rfl FFieldRoots.call12 rfl (field_Read_ok  hr120 h101) ?_
      rintro _ w122 ⟨rfl, h122⟩
      refine ⟨_, rfl, .inr ⟨rfl, ?_⟩⟩
      refine Plan.alloc h122 rfl FFieldRoots.z28 PIn.nil fun b123 w123 hb123 h123 => ?_
      simp only [rngs, Nat.zero_add, Nat.reduceAdd, List.cons_append, List.nil_append] at h123
      refine Plan.storeA (f' := fun q => VU .u64 (x_121 q)) h123 0 rfl rfl rfl rfl (fun _ _ => rfl) FFieldRoots.sz28 rfl fun w124 h124 => ?_
      simp only [List.cons_append, List.nil_append, List.set_cons_zero, List.set_cons_succ] at h124
      refine Plan.nil ?_
      refine hK119 _ _ ?_; clear hK119
      refine W.seq_k fun K125 hK125 => ?_
      refine W.regionT [(0, true), (1, false), (2, true), (3, true), (4, true), (5, false), (6, false), (7, true)] (by kernel_rfl) ?_
      refine Plan.loadA1 h124 0 rfl rfl rfl FFieldRoots.agg28 ?_
      obtain ⟨x_127, x_128, hr126, hR⟩ := hR
      refine Plan.call (vs := [AG [(5, fun q => VU .u64 (x_121 q))]]) rfl FFieldRoots.call20 rfl (field_Elem_Root_ok (iG0 := iG0 + 4) hG0 hr126 h124) ?_
      rintro _ w129 ⟨rfl, h129⟩
      refine ⟨_, rfl, .inr ⟨rfl, ?_⟩⟩
      refine Plan.move_tuple rfl rfl ?_
      refine Plan.extract_agg rfl rfl rfl ?_
      refine Plan.extract_bool rfl rfl rfl ?_
      refine Plan.alloc h129 rfl FFieldRoots.z28 PIn.nil fun b130 w130 hb130 h130 => ?_
      simp only [rngs, Nat.zero_add, Nat.reduceAdd, List.cons_append, List.nil_append] at h130
      refine Plan.storeA (f' := fun q => VU .u64 (x_127 q)) h130 0 rfl rfl rfl rfl (fun _ _ => rfl) FFieldRoots.sz28 rfl fun w131 h131 => ?_
      simp only [List.cons_append, List.nil_append, List.set_cons_zero, List.set_cons_succ] at h131
      refine Plan.assign_bool rfl rfl ?_
      refine Plan.nil ?_
      refine hK125 _ _ ?_; clear hK125
      refine W.seq_k fun K132 hK132 => ?_
      refine W.regionT [(0, true), (1, true), (2, false), (3, false), (4, true), (5, true), (6, true), (7, false), (8, false), (9, true)] (by kernel_rfl) ?_
      refine Plan.loadA1 h131 3 rfl rfl rfl FFieldRoots.agg28 ?_
      refine Plan.loadA1 h131 1 rfl rfl rfl FFieldRoots.agg28 ?_
      obtain ⟨x_134, hr133, hR⟩ := hR
      refine Plan.call (vs := [AG [(5, fun q => VU .u64 (x_8 q))], AG [(5, fun q => VU .u64 (x_121 q))]]) rfl FFieldRoots.call16 rfl (field_Elem_Mul_ok  hr133 h131) ?_
      rintro _ w135 ⟨rfl, h135⟩
      refine ⟨_, rfl, .inr ⟨rfl, ?_⟩⟩
      obtain ⟨x_137, x_138, hr136, hR⟩ := hR
      refine Plan.call (vs := [AG [(5, fun q => VU .u64 (x_134 q))]]) rfl FFieldRoots.call20 rfl (field_Elem_Root_ok (iG0 := iG0 + 5) hG0 hr136 h135) ?_
      rintro _ w139 ⟨rfl, h139⟩
      refine ⟨_, rfl, .inl ⟨PIn.keep PIn.nil h139, ?_⟩⟩
      refine Plan.move_tuple rfl rfl ?_
      refine Plan.extract_agg rfl rfl rfl ?_
      refine Plan.extract_bool rfl rfl rfl ?_
      refine Plan.alloc h139 rfl FFieldRoots.z28 PIn.nil fun b140 w140 hb140 h140 => ?_
      simp only [rngs, Nat.zero_add, Nat.reduceAdd, List.cons_append, List.nil_append] at h140
      refine Plan.storeA (f' := fun q => VU .u64 (x_137 q)) h140 0 rfl rfl rfl rfl (fun _ _ => rfl) FFieldRoots.sz28 rfl fun w141 h141 => ?_
      simp only [List.cons_append, List.nil_append, List.set_cons_zero, List.set_cons_succ] at h141
      refine Plan.assign_bool rfl rfl ?_
      refine Plan.nil ?_
      refine hK132 _ _ ?_; clear hK132
      refine W.seq_k fun K142 hK142 => ?_
      refine W.regionT [(0, true), (1, true), (2, false), (3, true), (4, true), (5, true), (6, false), (7, true), (8, true), (9, true), (10, true), (11, true), (12, true), (13, true)] (by kernel_rfl) ?_
      refine Plan.loadA1 h141 3 rfl rfl rfl FFieldRoots.agg28 ?_
      refine Plan.buildZ FFieldRoots.row28 FFieldRoots.z28 rfl ?_
      obtain ⟨x_144, hr143, hR⟩ := hR
      refine Plan.call (vs := [AG [(5, fun q => VU .u64 (x_97 q))], AG [(5, fun q => VU .u64 ((fun _ => 0#64) q))]]) rfl FFieldRoots.call15 rfl (field_Elem_Equal_ok  hr143 h141) ?_
      rintro _ w145 ⟨rfl, h145⟩
      refine ⟨_, rfl, .inr ⟨rfl, ?_⟩⟩
      by_cases hc146 : x_144 = true
      ·
        replace hR := ifT hR hc146
        obtain rfl : x_144 = true := hc146
        refine Plan.move_bool rfl rfl ?_
        refine Plan.loadA1 h145 2 rfl rfl rfl FFieldRoots.agg28 ?_
        refine Plan.buildZ FFieldRoots.row28 FFieldRoots.z28 rfl ?_
        obtain ⟨x_148, hr147, hR⟩ := hR
        refine Plan.call (vs := [AG [(5, fun q => VU .u64 (x_121 q))], AG [(5, fun q => VU .u64 ((fun _ => 0#64) q))]]) rfl FFieldRoots.call15 rfl (field_Elem_Equal_ok  hr147 h145) ?_
        rintro _ w149 ⟨rfl, h149⟩
        refine ⟨_, rfl, .inr ⟨rfl, ?_⟩⟩
        by_cases hc150 : x_148 = true
        ·
          replace hR := ifT hR hc150
          obtain rfl : x_148 = true := hc150
          refine Plan.move_bool rfl rfl ?_
          refine Plan.passed rfl ?_
          refine Plan.passed rfl ?_
          refine Plan.passed rfl ?_
          refine Plan.pickTb rfl rfl rfl ?_
          refine Plan.pickTb rfl rfl rfl ?_
          refine Plan.assign_bool rfl rfl ?_
          refine Plan.nil ?_
          refine hK142 _ _ ?_; clear hK142
          refine W.ret (finR_ret ?_)
          have h151 := St.pickT (C := [_, _, _, _, _, _]) h149 [] (by decide)
          simp only [pick, List.filterMap_cons, List.filterMap_nil, List.getElem?_cons_zero, List.getElem?_cons_succ, List.cons_append, List.nil_append] at h151
          subst r
          refine RetOk.mk (.tmp_bool rfl .nil) ?_
          exact ⟨rfl, h151⟩
        ·
          replace hR := ifF hR hc150
          obtain rfl : x_148 = false := Bool.eq_false_iff.2 hc150
          refine Plan.move_bool rfl rfl ?_
          refine Plan.move_bool rfl rfl ?_
          refine Plan.move_bool rfl rfl ?_
          refine Plan.neBoolV (v := (x_138 != x_128)) FFieldRoots.bool4 rfl rfl rfl rfl ?_
          refine Plan.pickFb rfl rfl rfl ?_
          refine Plan.pickTb rfl rfl rfl ?_
          refine Plan.assign_bool rfl rfl ?_
          refine Plan.nil ?_
          refine hK142 _ _ ?_; clear hK142
          refine W.ret (finR_ret ?_)
          have h152 := St.pickT (C := [_, _, _, _, _, _]) h149 [] (by decide)
          simp only [pick, List.filterMap_cons, List.filterMap_nil, List.getElem?_cons_zero, List.getElem?_cons_succ, List.cons_append, List.nil_append] at h152
          subst r
          refine RetOk.mk (.tmp_bool rfl .nil) ?_
          exact ⟨rfl, h152⟩
      ·
        replace hR := ifF hR hc146
        obtain rfl : x_144 = false := Bool.eq_false_iff.2 hc146
        refine Plan.move_bool rfl rfl ?_
        refine Plan.passed rfl ?_
        refine Plan.passed rfl ?_
        refine Plan.passed rfl ?_
        refine Plan.passed rfl ?_
        refine Plan.passed rfl ?_
        refine Plan.passed rfl ?_
        refine Plan.passed rfl ?_
        refine Plan.passed rfl ?_
        refine Plan.pickFb rfl rfl rfl ?_
        refine Plan.assign_bool rfl rfl ?_
        refine Plan.nil ?_
        refine hK142 _ _ ?_; clear hK142
        refine W.ret (finR_ret ?_)
        have h153 := St.pickT (C := [_, _, _, _, _, _]) h145 [] (by decide)
        simp only [pick, List.filterMap_cons, List.filterMap_nil, List.getElem?_cons_zero, List.getElem?_cons_succ, List.cons_append, List.nil_append] at h153
        subst r
        refine RetOk.mk (.tmp_bool rfl .nil) ?_
        exact ⟨rfl, h153⟩

end Go.Proofs.YtjblfkmmbpcpaaaDoor
