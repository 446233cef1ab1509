/-
  WALKS of the package's functions, printed by this session's own program (auto.py).
-/
import Derived.Test.YtjblfkmmbpcpaaaDoorProg
import Derived.Test.YtjblfkmmbpcpaaaDoorEb
import Derived.Test.YtjblfkmmbpcpaaaDoorRFieldExact
import Derived.Test.YtjblfkmmbpcpaaaDoorEls
import Derived.Test.YtjblfkmmbpcpaaaDoorWField
import Derived.Test.YtjblfkmmbpcpaaaDoorWLaw06
namespace Go.Proofs.YtjblfkmmbpcpaaaDoor
set_option linter.unusedSimpArgs false
set_option linter.unusedVariables false
set_option linter.unusedSectionVars false
open Go Go.LW
theorem FFieldExact.mixed : Tryd.prog.follows .mixedOrders = true := by kernel_rfl
theorem FFieldExact.arr23 : arrB Tryd.prog 23 32 1 = true := by kernel_rfl
theorem FFieldExact.agg28 : aggT Tryd.prog 28 5 = true := by kernel_rfl
theorem FFieldExact.z23 : zeroIs Tryd.prog 23 [(32, fun _ => VU .u8 0#8)] := zeroIs_agg (by kernel_rfl)
theorem FFieldExact.call13 : callB Tryd.prog 13 = true := by kernel_rfl
theorem FFieldExact.call19 : callB Tryd.prog 19 = true := by kernel_rfl
theorem FFieldExact.arrI23 : arrIB Tryd.prog 23 32 .u8 = true := by kernel_rfl
theorem FFieldExact.call15 : callB Tryd.prog 15 = true := by kernel_rfl
theorem FFieldExact.bool4 : boolB Tryd.prog 4 = true := by kernel_rfl
theorem FFieldExact.row47 : rowB Tryd.prog 47 = true := by kernel_rfl
theorem FFieldExact.z47 : zeroIs Tryd.prog 47 [(20, fun _ => VU .u64 0#64), (64, fun _ => .int .i64 0), (1, fun _ => .int .i64 0)] := zeroIs_agg (by kernel_rfl)
theorem FFieldExact.isl40 : ∃ el, Tryd.prog.underlying 40 = some (.slice el) := ⟨50, by kernel_rfl⟩
theorem FFieldExact.sl40 : slB Tryd.prog 40 38 = true := by kernel_rfl
theorem FFieldExact.agg50 : aggT Tryd.prog 50 38 = true := by kernel_rfl
theorem FFieldExact.fld47_0 : fieldB Tryd.prog 47 0 0 = true := by kernel_rfl
theorem FFieldExact.fld47_1 : fieldB Tryd.prog 47 1 20 = true := by kernel_rfl
theorem FFieldExact.agg44 : aggT Tryd.prog 44 16 = true := by kernel_rfl
theorem FFieldExact.arr42 : arrB Tryd.prog 42 4 5 = true := by kernel_rfl
theorem FFieldExact.arr45 : arrB Tryd.prog 45 4 16 = true := by kernel_rfl
theorem FFieldExact.arrI44 : arrIB Tryd.prog 44 16 .i64 = true := by kernel_rfl
theorem FFieldExact.call21 : callB Tryd.prog 21 = true := by kernel_rfl
theorem FFieldExact.call22 : callB Tryd.prog 22 = true := by kernel_rfl

set_option maxRecDepth 8000 in
set_option maxHeartbeats 1000000 in
theorem lethelaw06_FieldExact_ok {B : Nat} {w0 w : World} {L : List Rg} {iG0 : Nat} (hG0 : L[iG0]? = some ⟨some 0, 0, 5, fun q => VU .u64 (twice5 q), false⟩) {script1 : List (Int × Int × Int × Int × (Nat → BitVec 8) × (BitVec 32) × Int)} {ascript1 : Option Addr} {nscript1 cscript1 iscript1 : Nat} (hscript1 : LV D50 L iscript1 ascript1 nscript1 cscript1 script1) {r : Bool} (hR : lethelaw06_FieldExact script1 r) (HST : St B w0 (L) w) :
    Calls Tryd.prog 5 #[.slice ascript1 nscript1 cscript1] w fun e w' => e = .returned (.bool r) ∧ St B w0 (L) w' := by
  refine W.enter 64 Tryd.func5 rfl rfl rfl ?_
  unfold lethelaw06_FieldExact at hR
  have escript1 := hscript1.hl; subst escript1
  refine W.seq_k fun K2 hK2 => ?_
  refine W.regionT [(0, true)] (by kernel_rfl) ?_
  refine Plan.assign_bool rfl rfl ?_
  refine Plan.nil ?_
  refine hK2 _ _ ?_; clear hK2
  refine W.seq_k fun K3 hK3 => ?_
  refine W.regionT [(0, true), (1, false), (2, true)] (by kernel_rfl) ?_
  refine Plan.buildZ FFieldExact.row47 FFieldExact.z47 rfl ?_
  refine Plan.boxA HST rfl rfl PIn.nil fun b4 w4 hb4 h4 => ?_
  simp only [rngs, Nat.zero_add, Nat.reduceAdd, List.cons_append, List.nil_append] at h4
  refine Plan.assign_ptr rfl rfl ?_
  refine Plan.nil ?_
  refine hK3 _ _ ?_; clear hK3
  refine W.seq_k fun K5 hK5 => ?_
  refine W.seq_k fun K6 hK6 => ?_
  refine W.regionT [(0, true)] (by kernel_rfl) ?_
  refine Plan.assign_int rfl rfl ?_
  refine Plan.nil ?_
  refine hK6 _ _ ?_; clear hK6
  obtain ⟨x68, hI68, hR068⟩ := hR
  refine W.cutN (fun e w => ∃ y_m65 : Nat → BitVec 64, ∃ y_m66 : Nat → Int, ∃ y_m67 : Int, x68 = some (y_m65, y_m66, y_m67) ∧ EnvHas e [(3, .pointer (some ⟨b4, 0, none⟩))] ∧ St B w0 (⟨some b4, 0, 20, fun q => VU .u64 (y_m65 q), true⟩ :: ⟨some b4, 20, 64, fun q => .int .i64 (y_m66 q), true⟩ :: ⟨some b4, 84, 1, fun _ => .int .i64 y_m67, true⟩ :: L) w) ?_ ?_
  ·
    refine W.block ?_
    refine W.iter hI68 (fun (s68 : (Nat × (Nat → BitVec 64) × (Nat → Int) × Int)) e w => EnvHas e [(0, .slice ascript1 script1.length cscript1), (3, .pointer (some ⟨b4, 0, none⟩)), (4, VN s68.1)] ∧ St B w0 (⟨some b4, 0, 20, fun q => VU .u64 (s68.2.1 q), true⟩ :: ⟨some b4, 20, 64, fun q => .int .i64 (s68.2.2.1 q), true⟩ :: ⟨some b4, 84, 1, fun _ => .int .i64 s68.2.2.2, true⟩ :: L) w) ⟨(EnvHas.cons rfl (EnvHas.cons rfl (EnvHas.cons rfl EnvHas.nil))), h4⟩ ?_
    rintro ⟨i_61, m62, m63, m64⟩ o68 hR hx68 ev69 wl69 ⟨he69, h69⟩
    obtain ⟨ev69, rfl⟩ := he69.open
    unfold lethelaw06_FieldExact_l0 at hR
    refine W.seq_k fun K70 hK70 => ?_
    refine W.seq_k fun K74 hK74 => ?_
    refine W.regionT [(0, true), (1, true), (2, true), (3, true), (4, true), (5, true), (6, true), (7, true)] (by kernel_rfl) ?_
    refine Plan.move_int rfl rfl ?_
    refine Plan.move_slice rfl rfl ?_
    refine Plan.len FFieldExact.isl40 rfl rfl ?_
    by_cases hc75 : i_61 < script1.length
    ·
      replace hR := ifT hR hc75
      refine Plan.cmpV (a := (((i_61 : Nat) : Int) : Int)) (b := (((script1.length : Nat) : Int) : Int)) (p := i_61 < script1.length) (v := true) rfl rfl rfl rfl icmp_ltN (decide_eq_true hc75) ?_
      refine Plan.move_bool rfl rfl ?_
      refine Plan.move_int rfl rfl ?_
      refine Plan.cmpP (a := (((i_61 : Nat) : Int) : Int)) (b := (60 : Int)) (p := i_61 < 60) rfl rfl rfl rfl icmp_ltN ?_
      refine Plan.pickTb rfl rfl rfl ?_
      refine Plan.nil ?_
      refine hK74 _ _ ?_; clear hK74
      by_cases hc76 : i_61 < 60
      ·
        replace hR := ifT hR hc76
        refine W.condT (congrArg Value.bool (decide_eq_true hc76)) ?_
        refine W.skip ?_
        refine hK70 _ _ ?_; clear hK70
        refine W.seq_k fun K77 hK77 => ?_
        refine W.block ?_
        refine W.seq_k fun K78 hK78 => ?_
        refine W.regionT [(0, true), (1, true), (2, true), (3, true), (4, true), (5, false), (6, true)] (by kernel_rfl) ?_
        refine Plan.move_ptr rfl rfl ?_
        refine Plan.move_slice rfl rfl ?_
        refine Plan.move_int rfl rfl ?_
        obtain ⟨hc79, hR⟩ := hR
        refine Plan.idxLVS (D := D50) (j := i_61) h69 (hscript1.app [_, _, _]) FFieldExact.sl40 rfl rfl rfl hc79 ?_
        refine Plan.loadLV (D := D50) (X := script1) (j := i_61) (sz := 38) h69 ((0 : Int), (0 : Int), (0 : Int), (0 : Int), (fun _ => 0#8), 0#32, (0 : Int)) (hscript1.app [_, _, _]) rfl rfl hc79 rfl FFieldExact.agg50 fun b80 r80 hs80 hr80 => ?_
        obtain ⟨x_82, x_83, x_84, x_85, hr81, hR⟩ := hR
        refine Plan.call (vs := [.pointer (some ⟨b4, 0, none⟩), AG [(1, fun _ => .int .i64 ((script1.getD i_61 ((0 : Int), (0 : Int), (0 : Int), (0 : Int), (fun _ => 0#8), 0#32, (0 : Int))).1)), (1, fun _ => .int .i64 ((script1.getD i_61 ((0 : Int), (0 : Int), (0 : Int), (0 : Int), (fun _ => 0#8), 0#32, (0 : Int))).2.1)), (1, fun _ => .int .i64 ((script1.getD i_61 ((0 : Int), (0 : Int), (0 : Int), (0 : Int), (fun _ => 0#8), 0#32, (0 : Int))).2.2.1)), (1, fun _ => .int .i64 ((script1.getD i_61 ((0 : Int), (0 : Int), (0 : Int), (0 : Int), (fun _ => 0#8), 0#32, (0 : Int))).2.2.2.1)), (32, fun q => VU .u8 (((script1.getD i_61 ((0 : Int), (0 : Int), (0 : Int), (0 : Int), (fun _ => 0#8), 0#32, (0 : Int))).2.2.2.2.1) q)), (1, fun _ => VU .u32 ((script1.getD i_61 ((0 : Int), (0 : Int), (0 : Int), (0 : Int), (fun _ => 0#8), 0#32, (0 : Int))).2.2.2.2.2.1)), (1, fun _ => .int .i64 ((script1.getD i_61 ((0 : Int), (0 : Int), (0 : Int), (0 : Int), (fun _ => 0#8), 0#32, (0 : Int))).2.2.2.2.2.2))]]) rfl FFieldExact.call21 rfl (lethelaw06_table_plays_ok (iG0 := iG0 + 0) hG0 hr81 h69) ?_
        rintro _ w86 ⟨rfl, h86⟩
        refine ⟨_, rfl, .inr ⟨rfl, ?_⟩⟩
        refine Plan.assign_bool rfl rfl ?_
        refine Plan.nil ?_
        refine hK78 _ _ ?_; clear hK78
        refine W.seq_k fun K87 hK87 => ?_
        refine W.regionT [(0, true), (1, true), (2, true), (3, true), (4, false), (5, true), (6, true)] (by kernel_rfl) ?_
        by_cases hc88 : x_82 = true
        ·
          replace hR := ifT hR hc88
          refine Plan.move_bool (b := true) rfl (congrArg Value.bool hc88) ?_
          refine Plan.notT rfl rfl ?_
          refine Plan.move_bool rfl rfl ?_
          refine Plan.move_ptr rfl rfl ?_
          obtain ⟨x_90, hr89, hR⟩ := hR
          refine Plan.call (vs := [.pointer (some ⟨b4, 0, none⟩)]) rfl FFieldExact.call22 rfl (lethelaw06_table_same_ok  hr89 h86) ?_
          rintro _ w91 ⟨rfl, h91⟩
          refine ⟨_, rfl, .inl ⟨PIn.keep PIn.nil h91, ?_⟩⟩
          refine Plan.not rfl rfl ?_
          refine Plan.pickFb rfl rfl rfl ?_
          refine Plan.nil ?_
          refine hK87 _ _ ?_; clear hK87
          by_cases hc92 : x_90 = true
          ·
            replace hR := ifT hR hc92
            refine W.condF (congrArg Value.bool (congrArg Bool.not hc92)) ?_
            refine W.skip ?_
            refine blockR_norm ?_
            refine hK77 _ _ ?_; clear hK77
            refine W.regionT [(0, true), (1, true), (2, true)] (by kernel_rfl) ?_
            refine Plan.move_int rfl rfl ?_
            refine Plan.addN (a := i_61) (b := 1) rfl rfl rfl (by omega) ?_
            refine Plan.assign_int rfl rfl ?_
            refine Plan.nil ?_
            exact iterR_norm ⟨_, hR, (EnvHas.cons rfl (EnvHas.cons rfl (EnvHas.cons rfl EnvHas.nil))), h91⟩
          ·
            replace hR := ifF hR hc92
            refine W.condT (congrArg Value.bool (congrArg Bool.not (Bool.eq_false_iff.2 hc92))) ?_
            refine W.seq_k fun K93 hK93 => ?_
            refine W.regionT [(0, true)] (by kernel_rfl) ?_
            refine Plan.assign_bool rfl rfl ?_
            refine Plan.nil ?_
            refine hK93 _ _ ?_; clear hK93
            refine W.ret (blockR_ret (thenR_ret (iterR_ret (blockR_ret (thenR_ret (thenR_ret (finR_ret ?_)))))))
            have h94 := St.pickT (C := [_, _, _]) h91 [] (by decide)
            simp only [pick, List.filterMap_cons, List.filterMap_nil, List.getElem?_cons_zero, List.getElem?_cons_succ, List.cons_append, List.nil_append] at h94
            replace hR := hR.2
            subst r
            refine RetOk.mk (.tmp_bool rfl .nil) ?_
            exact ⟨rfl, h94⟩
        ·
          replace hR := ifF hR hc88
          refine Plan.move_bool (b := false) rfl (congrArg Value.bool (Bool.eq_false_iff.2 hc88)) ?_
          refine Plan.notF rfl rfl ?_
          refine Plan.move_bool rfl rfl ?_
          refine Plan.passed rfl ?_
          refine Plan.passed rfl ?_
          refine Plan.passed rfl ?_
          refine Plan.pickTb rfl rfl rfl ?_
          refine Plan.nil ?_
          refine hK87 _ _ ?_; clear hK87
          refine W.condT rfl ?_
          refine W.seq_k fun K95 hK95 => ?_
          refine W.regionT [(0, true)] (by kernel_rfl) ?_
          refine Plan.assign_bool rfl rfl ?_
          refine Plan.nil ?_
          refine hK95 _ _ ?_; clear hK95
          refine W.ret (blockR_ret (thenR_ret (iterR_ret (blockR_ret (thenR_ret (thenR_ret (finR_ret ?_)))))))
          have h96 := St.pickT (C := [_, _, _]) h86 [] (by decide)
          simp only [pick, List.filterMap_cons, List.filterMap_nil, List.getElem?_cons_zero, List.getElem?_cons_succ, List.cons_append, List.nil_append] at h96
          replace hR := hR.2
          subst r
          refine RetOk.mk (.tmp_bool rfl .nil) ?_
          exact ⟨rfl, h96⟩
      ·
        replace hR := ifF hR hc76
        refine W.condF (congrArg Value.bool (decide_eq_false hc76)) ?_
        refine W.exit (thenR_exit (iterR_exit (blockR_here ?_)))
        exact ⟨m62, m63, m64, (hx68 _ hR).symm, (EnvHas.cons rfl EnvHas.nil), h69⟩
    ·
      replace hR := ifF hR hc75
      refine Plan.cmpV (a := (((i_61 : Nat) : Int) : Int)) (b := (((script1.length : Nat) : Int) : Int)) (p := i_61 < script1.length) (v := false) rfl rfl rfl rfl icmp_ltN (decide_eq_false hc75) ?_
      refine Plan.move_bool rfl rfl ?_
      refine Plan.passed rfl ?_
      refine Plan.passed rfl ?_
      refine Plan.pickFb rfl rfl rfl ?_
      refine Plan.nil ?_
      refine hK74 _ _ ?_; clear hK74
      refine W.condF rfl ?_
      refine W.exit (thenR_exit (iterR_exit (blockR_here ?_)))
      exact ⟨m62, m63, m64, (hx68 _ hR).symm, (EnvHas.cons rfl EnvHas.nil), h69⟩
  ·
    rintro ev97 wl97 ⟨y_m65, y_m66, y_m67, hy97, he97, h97⟩
    obtain ⟨ev97, rfl⟩ := he97.open
    replace hR := hR068 y_m65 y_m66 y_m67 hy97
    obtain ⟨m65, e_m65⟩ : ∃ z, z = y_m65 := ⟨_, rfl⟩; subst e_m65
    obtain ⟨m66, e_m66⟩ : ∃ z, z = y_m66 := ⟨_, rfl⟩; subst e_m66
    obtain ⟨m67, e_m67⟩ : ∃ z, z = y_m67 := ⟨_, rfl⟩; subst e_m67
    refine hK5 _ _ ?_; clear hK5
    refine W.seq_k fun K98 hK98 => ?_
    refine W.regionD FFieldExact.mixed [(0, true), (1, false), (2, true), (3, true), (4, true), (5, true), (6, true), (7, true), (8, true), (9, true), (10, true), (11, true), (12, true), (14, true), (15, true), (16, true), (17, true), (18, true), (19, true), (20, true), (21, true), (22, true), (23, true), (24, true), (13, false), (25, true), (26, true), (27, true), (30, true), (28, false), (29, false), (31, true), (32, true), (33, true)] (by kernel_rfl) ?_
    have h99 := h97.drew
    refine Plan.move_ptr rfl rfl ?_
    obtain ⟨x_101, hr100, hR⟩ := hR
    refine Plan.call (vs := [.pointer (some ⟨b4, 0, none⟩)]) rfl FFieldExact.call22 rfl (lethelaw06_table_same_ok  hr100 h99) ?_
    rintro _ w102 ⟨rfl, h102⟩
    refine ⟨_, rfl, .inl ⟨PIn.keep PIn.nil h102, ?_⟩⟩
    by_cases hc103 : x_101 = true
    ·
      replace hR := ifT hR hc103
      obtain rfl : x_101 = true := hc103
      refine Plan.move_bool rfl rfl ?_
      refine Plan.move_ptr rfl rfl ?_
      refine Plan.nilCheck rfl rfl ?_
      refine Plan.fieldAddr0 FFieldExact.fld47_0 rfl rfl ?_
      refine Plan.idxArrO (j := 0) (o' := 0 + (0 * 5)) FFieldExact.arr42 rfl rfl rfl (by omega) (by omega) ?_
      refine Plan.loadSub (m' := 5) h102 0 (0 * 5) rfl rfl rfl rfl (by omega) FFieldExact.agg28 ?_
      refine Plan.move_ptr rfl rfl ?_
      refine Plan.nilCheck rfl rfl ?_
      refine Plan.fieldAddr0 FFieldExact.fld47_0 rfl rfl ?_
      refine Plan.idxArrO (j := 1) (o' := 0 + (1 * 5)) FFieldExact.arr42 rfl rfl rfl (by omega) (by omega) ?_
      refine Plan.loadSub (m' := 5) h102 0 (1 * 5) rfl rfl rfl rfl (by omega) FFieldExact.agg28 ?_
      refine Plan.move_ptr rfl rfl ?_
      refine Plan.nilCheck rfl rfl ?_
      refine Plan.fieldAddr 20 FFieldExact.fld47_1 rfl rfl ?_
      refine Plan.idxArrO (j := 0) (o' := 20 + (0 * 16)) FFieldExact.arr45 rfl rfl rfl (by omega) (by omega) ?_
      refine Plan.loadSub (m' := 16) h102 1 (0 * 16) rfl rfl rfl rfl (by omega) FFieldExact.agg44 ?_
      refine Plan.move_ptr rfl rfl ?_
      refine Plan.nilCheck rfl rfl ?_
      refine Plan.fieldAddr 20 FFieldExact.fld47_1 rfl rfl ?_
      refine Plan.idxArrO (j := 1) (o' := 20 + (1 * 16)) FFieldExact.arr45 rfl rfl rfl (by omega) (by omega) ?_
      refine Plan.loadSub (m' := 16) h102 1 (1 * 16) rfl rfl rfl rfl (by omega) FFieldExact.agg44 ?_
      refine Plan.eqArrIV (b := (eqI 16 (fun q => m66 ((0 * 16) + q)) (fun q => m66 ((1 * 16) + q)))) FFieldExact.arrI44 rfl rfl rfl rfl ?_
      obtain ⟨x_105, hr104, hR⟩ := hR
      refine Plan.call (vs := [AG [(5, fun q => VU .u64 ((fun q => m65 ((0 * 5) + q)) q))], AG [(5, fun q => VU .u64 ((fun q => m65 ((1 * 5) + q)) q))]]) rfl FFieldExact.call15 rfl (field_Elem_Equal_ok  hr104 h102) ?_
      rintro _ w106 ⟨rfl, h106⟩
      refine ⟨_, rfl, .inl ⟨PIn.keep (PIn.cons 1 rfl (PIn.cons 1 rfl (PIn.cons 0 rfl (PIn.cons 0 rfl PIn.nil)))) h106, ?_⟩⟩
      by_cases hc107 : (x_105 == (eqI 16 (fun q => m66 ((0 * 16) + q)) (fun q => m66 ((1 * 16) + q)))) = true
      ·
        replace hR := ifT hR hc107
        refine Plan.eqBoolV (v := true) FFieldExact.bool4 rfl rfl rfl hc107 ?_
        refine Plan.pickTb rfl rfl rfl ?_
        refine Plan.move_bool rfl rfl ?_
        refine Plan.buildArr (ps := [(32, fun q => VU .u8 ((upd (fun _ => 0#8) 0 (7#8)) q))]) FFieldExact.arr23 FFieldExact.z23 rfl rfl (by kernel_rfl) ?_
        obtain ⟨x_109, hr108, hR⟩ := hR
        refine Plan.call (vs := [VU .u32 (7#32)]) rfl FFieldExact.call13 rfl (field_Small_ok  hr108 h106) ?_
        rintro _ w110 ⟨rfl, h110⟩
        refine ⟨_, rfl, .inl ⟨PIn.keep (PIn.cons 1 rfl (PIn.cons 1 rfl (PIn.cons 0 rfl (PIn.cons 0 rfl PIn.nil)))) h110, ?_⟩⟩
        obtain ⟨x_112, hr111, hR⟩ := hR
        refine Plan.call (vs := [AG [(5, fun q => VU .u64 (x_109 q))]]) rfl FFieldExact.call19 rfl (field_Elem_Bytes_ok  hr111 h110) ?_
        rintro _ w113 ⟨rfl, h113⟩
        refine ⟨_, rfl, .inl ⟨PIn.keep (PIn.cons 1 rfl (PIn.cons 1 rfl (PIn.cons 0 rfl (PIn.cons 0 rfl PIn.nil)))) h113, ?_⟩⟩
        refine Plan.eqArrV (b := (eqB 32 x_112 (upd (fun _ => 0#8) 0 (7#8)))) FFieldExact.arrI23 rfl rfl rfl rfl ?_
        refine Plan.pickTb rfl rfl rfl ?_
        refine Plan.assign_bool rfl rfl ?_
        refine Plan.nil ?_
        refine hK98 _ _ ?_; clear hK98
        refine W.ret (finR_ret ?_)
        have h114 := St.pickT (C := [_, _, _]) h113 [] (by decide)
        simp only [pick, List.filterMap_cons, List.filterMap_nil, List.getElem?_cons_zero, List.getElem?_cons_succ, List.cons_append, List.nil_append] at h114
        subst r
        refine RetOk.mk (.tmp_bool rfl .nil) ?_
        exact ⟨rfl, h114⟩
      ·
        replace hR := ifF hR hc107
        refine Plan.eqBoolV (v := false) FFieldExact.bool4 rfl rfl rfl (Bool.eq_false_iff.2 hc107) ?_
        refine Plan.pickTb rfl rfl rfl ?_
        refine Plan.move_bool rfl rfl ?_
        refine Plan.passed rfl ?_
        refine Plan.passed rfl ?_
        refine Plan.passed rfl ?_
        refine Plan.passed rfl ?_
        refine Plan.pickFb rfl rfl rfl ?_
        refine Plan.assign_bool rfl rfl ?_
        refine Plan.nil ?_
        refine hK98 _ _ ?_; clear hK98
        refine W.ret (finR_ret ?_)
        have h115 := St.pickT (C := [_, _, _]) h106 [] (by decide)
        simp only [pick, List.filterMap_cons, List.filterMap_nil, List.getElem?_cons_zero, List.getElem?_cons_succ, List.cons_append, List.nil_append] at h115
        subst r
        refine RetOk.mk (.tmp_bool rfl .nil) ?_
        exact ⟨rfl, h115⟩
    ·
      replace hR := ifF hR hc103
      obtain rfl : x_101 = false := Bool.eq_false_iff.2 hc103
      refine Plan.move_bool rfl rfl ?_
      refine Plan.passed rfl ?_
      refine Plan.passed rfl ?_
      refine Plan.passed rfl ?_
      refine Plan.passed rfl ?_
      refine Plan.passed rfl ?_
      refine Plan.passed rfl ?_
      refine Plan.passed rfl ?_
      refine Plan.passed rfl ?_
      refine Plan.passed rfl ?_
      refine Plan.passed rfl ?_
      refine Plan.passed rfl ?_
      refine Plan.passed rfl ?_
      refine Plan.passed rfl ?_
      refine Plan.passed rfl ?_
      refine Plan.passed rfl ?_
      refine Plan.passed rfl ?_
      refine Plan.passed rfl ?_
      refine Plan.passed rfl ?_
      refine Plan.passed rfl ?_
      refine Plan.passed rfl ?_
      refine Plan.passed rfl ?_
      refine Plan.passed rfl ?_
      refine Plan.passed rfl ?_
      refine Plan.pickFb rfl rfl rfl ?_
      refine Plan.move_bool rfl rfl ?_
      refine Plan.passed rfl ?_
      refine Plan.passed rfl ?_
      refine Plan.passed rfl ?_
      refine Plan.passed rfl ?_
      refine Plan.pickFb rfl rfl rfl ?_
      refine Plan.assign_bool rfl rfl ?_
      refine Plan.nil ?_
      refine hK98 _ _ ?_; clear hK98
      refine W.ret (finR_ret ?_)
      have h116 := St.pickT (C := [_, _, _]) h102 [] (by decide)
      simp only [pick, List.filterMap_cons, List.filterMap_nil, List.getElem?_cons_zero, List.getElem?_cons_succ, List.cons_append, List.nil_append] at h116
      subst r
      refine RetOk.mk (.tmp_bool rfl .nil) ?_
      exact ⟨rfl, h116⟩

end Go.Proofs.YtjblfkmmbpcpaaaDoor
