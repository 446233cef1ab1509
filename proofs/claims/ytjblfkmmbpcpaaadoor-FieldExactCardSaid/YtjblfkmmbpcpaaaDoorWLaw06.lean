/-
  WALKS of the package's functions, printed by this session's own program (auto.py).
-/
import Derived.Test.YtjblfkmmbpcpaaaDoorProg
import Derived.Test.YtjblfkmmbpcpaaaDoorEb
import Derived.Test.YtjblfkmmbpcpaaaDoorRLaw06
import Derived.Test.YtjblfkmmbpcpaaaDoorEls
import Derived.Test.YtjblfkmmbpcpaaaDoorWField
import Derived.Test.YtjblfkmmbpcpaaaDoorWRef06
namespace Go.Proofs.YtjblfkmmbpcpaaaDoor
set_option linter.unusedSimpArgs false
set_option linter.unusedVariables false
set_option linter.unusedSectionVars false
open Go Go.LW
theorem FLaw06.agg23 : aggT Tryd.prog 23 32 = true := by kernel_rfl
theorem FLaw06.z28 : zeroIs Tryd.prog 28 [(5, fun _ => VU .u64 0#64)] := zeroIs_agg (by kernel_rfl)
theorem FLaw06.mixed : Tryd.prog.follows .mixedOrders = true := by kernel_rfl
theorem FLaw06.u24 : Tryd.prog.underlying 24 = some (.int .u64) := by kernel_rfl
theorem FLaw06.sz28 : szT Tryd.prog 28 5 = true := by kernel_rfl
theorem FLaw06.agg28 : aggT Tryd.prog 28 5 = true := by kernel_rfl
theorem FLaw06.call12 : callB Tryd.prog 12 = true := by kernel_rfl
theorem FLaw06.call16 : callB Tryd.prog 16 = true := by kernel_rfl
theorem FLaw06.call18 : callB Tryd.prog 18 = true := by kernel_rfl
theorem FLaw06.some31 : (Tryd.prog.underlying 31).isSome = true := by kernel_rfl
theorem FLaw06.call13 : callB Tryd.prog 13 = true := by kernel_rfl
theorem FLaw06.call36 : callB Tryd.prog 36 = true := by kernel_rfl
theorem FLaw06.call19 : callB Tryd.prog 19 = true := by kernel_rfl
theorem FLaw06.arrI23 : arrIB Tryd.prog 23 32 .u8 = true := by kernel_rfl
theorem FLaw06.call15 : callB Tryd.prog 15 = true := by kernel_rfl
theorem FLaw06.call17 : callB Tryd.prog 17 = true := by kernel_rfl
theorem FLaw06.call20 : callB Tryd.prog 20 = true := by kernel_rfl
theorem FLaw06.call14 : callB Tryd.prog 14 = true := by kernel_rfl
theorem FLaw06.bool4 : boolB Tryd.prog 4 = true := by kernel_rfl
theorem FLaw06.agg50 : aggT Tryd.prog 50 38 = true := by kernel_rfl
theorem FLaw06.fld50_1 : fieldB Tryd.prog 50 1 1 = true := by kernel_rfl
theorem FLaw06.sc3 : scalarT Tryd.prog 3 = true := by kernel_rfl
theorem FLaw06.fld50_2 : fieldB Tryd.prog 50 2 2 = true := by kernel_rfl
theorem FLaw06.fld50_3 : fieldB Tryd.prog 50 3 3 = true := by kernel_rfl
theorem FLaw06.call38 : callB Tryd.prog 38 = true := by kernel_rfl
theorem FLaw06.fld50_0 : fieldB Tryd.prog 50 0 0 = true := by kernel_rfl
theorem FLaw06.fld50_4 : fieldB Tryd.prog 50 4 4 = true := by kernel_rfl
theorem FLaw06.fld47_0 : fieldB Tryd.prog 47 0 0 = true := by kernel_rfl
theorem FLaw06.fld47_1 : fieldB Tryd.prog 47 1 20 = true := by kernel_rfl
theorem FLaw06.z44 : zeroIs Tryd.prog 44 [(16, fun _ => .int .i64 0)] := zeroIs_agg (by kernel_rfl)
theorem FLaw06.sz3 : szT Tryd.prog 3 1 = true := by kernel_rfl
theorem FLaw06.agg44 : aggT Tryd.prog 44 16 = true := by kernel_rfl
theorem FLaw06.sz44 : szT Tryd.prog 44 16 = true := by kernel_rfl
theorem FLaw06.call39 : callB Tryd.prog 39 = true := by kernel_rfl
theorem FLaw06.arr42 : arrB Tryd.prog 42 4 5 = true := by kernel_rfl
theorem FLaw06.arr45 : arrB Tryd.prog 45 4 16 = true := by kernel_rfl
theorem FLaw06.call40 : callB Tryd.prog 40 = true := by kernel_rfl
theorem FLaw06.call41 : callB Tryd.prog 41 = true := by kernel_rfl
theorem FLaw06.fld50_5 : fieldB Tryd.prog 50 5 36 = true := by kernel_rfl
theorem FLaw06.sc31 : scalarT Tryd.prog 31 = true := by kernel_rfl
theorem FLaw06.call42 : callB Tryd.prog 42 = true := by kernel_rfl
theorem FLaw06.call43 : callB Tryd.prog 43 = true := by kernel_rfl
theorem FLaw06.call44 : callB Tryd.prog 44 = true := by kernel_rfl
theorem FLaw06.call45 : callB Tryd.prog 45 = true := by kernel_rfl
theorem FLaw06.fld47_2 : fieldB Tryd.prog 47 2 84 = true := by kernel_rfl
theorem FLaw06.call63 : callB Tryd.prog 63 = true := by kernel_rfl
theorem FLaw06.call52 : callB Tryd.prog 52 = true := by kernel_rfl
theorem FLaw06.call48 : callB Tryd.prog 48 = true := by kernel_rfl
theorem FLaw06.call64 : callB Tryd.prog 64 = true := by kernel_rfl
theorem FLaw06.arrI44 : arrIB Tryd.prog 44 16 .i64 = true := by kernel_rfl
theorem FLaw06.call65 : callB Tryd.prog 65 = true := by kernel_rfl
theorem FLaw06.call46 : callB Tryd.prog 46 = true := by kernel_rfl
theorem FLaw06.fld50_6 : fieldB Tryd.prog 50 6 37 = true := by kernel_rfl
theorem FLaw06.call47 : callB Tryd.prog 47 = true := by kernel_rfl

set_option maxRecDepth 8000 in
set_option maxHeartbeats 1000000 in
theorem lethelaw06_rest_ok {B : Nat} {w0 w : World} {L : List Rg} {n_1 : Int} {m2 : Int} {r : Int} (hR : lethelaw06_rest n_1 m2 r) (HST : St B w0 (L) w) :
    Calls Tryd.prog 38 #[.int .i64 n_1, .int .i64 m2] w fun e w' => e = .returned (.int .i64 r) ∧ St B w0 (L) w' := by
  refine W.enter 12 Tryd.func38 rfl rfl rfl ?_
  unfold lethelaw06_rest at hR
  refine W.seq_k fun K3 hK3 => ?_
  refine W.regionT [(0, true)] (by kernel_rfl) ?_
  refine Plan.assign_int rfl rfl ?_
  refine Plan.nil ?_
  refine hK3 _ _ ?_; clear hK3
  refine W.seq_k fun K4 hK4 => ?_
  refine W.regionT [(0, true), (1, true), (2, true), (3, true), (4, true), (5, true), (6, true), (7, true)] (by kernel_rfl) ?_
  refine Plan.move_int rfl rfl ?_
  refine Plan.move_int rfl rfl ?_
  obtain ⟨hc5, hR⟩ := hR
  refine Plan.remI (a := n_1) (b := m2) rfl rfl rfl hc5 ?_
  refine Plan.move_int rfl rfl ?_
  obtain ⟨hc6, hR⟩ := hR
  refine Plan.addI (a := (n_1.tmod m2)) (b := m2) rfl rfl rfl (by omega) ?_
  refine Plan.move_int rfl rfl ?_
  obtain ⟨hc7, hR⟩ := hR
  refine Plan.remI (a := ((n_1.tmod m2) + m2)) (b := m2) rfl rfl rfl hc7 ?_
  refine Plan.assign_int rfl rfl ?_
  refine Plan.nil ?_
  refine hK4 _ _ ?_; clear hK4
  refine W.ret (finR_ret ?_)
  subst r
  refine RetOk.mk (.tmp_int rfl .nil) ?_
  exact ⟨rfl, HST⟩


set_option maxRecDepth 8000 in
set_option maxHeartbeats 1000000 in
theorem lethelaw06_table_powers_ok {B : Nat} {w0 w : World} {L : List Rg} {iG0 : Nat} (hG0 : L[iG0]? = some ⟨some 0, 0, 5, fun q => VU .u64 (twice5 q), false⟩) {bt1 : Nat} {tp2 : Nat → BitVec 64} {tr3 : Nat → Int} {tslow4 : Int} {oKind5 : Int} {oA6 : Int} {oB7 : Int} {oC8 : Int} {oK9 : Nat → BitVec 8} {oN10 : BitVec 32} {oBit11 : Int} {r : (Bool × (Nat → BitVec 64) × (Nat → Int) × Int)} (hR : lethelaw06_table_powers tp2 tr3 tslow4 oKind5 oA6 oB7 oC8 oK9 oN10 oBit11 r) (HST : St B w0 (⟨some bt1, 0, 20, fun q => VU .u64 (tp2 q), true⟩ :: ⟨some bt1, 20, 64, fun q => .int .i64 (tr3 q), true⟩ :: ⟨some bt1, 84, 1, fun _ => .int .i64 tslow4, true⟩ :: L) w) :
    Calls Tryd.prog 46 #[.pointer (some ⟨bt1, 0, none⟩), AG [(1, fun _ => .int .i64 oKind5), (1, fun _ => .int .i64 oA6), (1, fun _ => .int .i64 oB7), (1, fun _ => .int .i64 oC8), (32, fun q => VU .u8 (oK9 q)), (1, fun _ => VU .u32 oN10), (1, fun _ => .int .i64 oBit11)]] w fun e w' => e = .returned (.bool r.1) ∧ St B w0 (⟨some bt1, 0, 20, fun q => VU .u64 (r.2.1 q), true⟩ :: ⟨some bt1, 20, 64, fun q => .int .i64 (r.2.2.1 q), true⟩ :: ⟨some bt1, 84, 1, fun _ => .int .i64 r.2.2.2, true⟩ :: L) w' := by
  refine W.enter 124 Tryd.func46 rfl rfl rfl ?_
  unfold lethelaw06_table_powers at hR
  refine W.seq_k fun K12 hK12 => ?_
  refine W.regionT [(0, false), (1, true)] (by kernel_rfl) ?_
  refine Plan.boxA HST rfl rfl PIn.nil fun b13 w13 hb13 h13 => ?_
  simp only [rngs, Nat.zero_add, Nat.reduceAdd, List.cons_append, List.nil_append] at h13
  refine Plan.assign_bool rfl rfl ?_
  refine Plan.nil ?_
  refine hK12 _ _ ?_; clear hK12
  refine W.seq_k fun K14 hK14 => ?_
  refine W.regionD FLaw06.mixed [(0, true), (1, true), (3, true), (4, true), (2, false), (5, false), (6, true), (7, true)] (by kernel_rfl) ?_
  have h15 := h13.drew
  refine Plan.fieldAddr 1 FLaw06.fld50_1 rfl rfl ?_
  refine Plan.load0 h15 1 rfl rfl rfl (by omega) FLaw06.sc3 ?_
  refine Plan.fieldAddr 3 FLaw06.fld50_3 rfl rfl ?_
  refine Plan.load0 h15 3 rfl rfl rfl (by omega) FLaw06.sc3 ?_
  obtain ⟨x_17, hr16, hR⟩ := hR
  refine Plan.call (vs := [.int .i64 oA6, VN 4]) rfl FLaw06.call38 rfl (lethelaw06_rest_ok  hr16 h15) ?_
  rintro _ w18 ⟨rfl, h18⟩
  refine ⟨_, rfl, .inl ⟨PIn.keep (PIn.cons 3 rfl (PIn.cons 1 rfl PIn.nil)) h18, ?_⟩⟩
  obtain ⟨x_20, hr19, hR⟩ := hR
  refine Plan.call (vs := [.int .i64 oC8, VN 4]) rfl FLaw06.call38 rfl (lethelaw06_rest_ok  hr19 h18) ?_
  rintro _ w21 ⟨rfl, h21⟩
  refine ⟨_, rfl, .inl ⟨PIn.keep (PIn.cons 3 rfl (PIn.cons 1 rfl PIn.nil)) h21, ?_⟩⟩
  refine Plan.assign_int rfl rfl ?_
  refine Plan.assign_int rfl rfl ?_
  refine Plan.nil ?_
  refine hK14 _ _ ?_; clear hK14
  refine W.seq_k fun K22 hK22 => ?_
  refine W.regionT [(0, true), (1, true), (2, true), (3, true), (4, true), (5, true), (6, true), (7, false)] (by kernel_rfl) ?_
  refine Plan.move_ptr rfl rfl ?_
  refine Plan.nilCheck rfl rfl ?_
  refine Plan.fieldAddr 84 FLaw06.fld47_2 rfl rfl ?_
  refine Plan.load0 h21 9 rfl rfl rfl (by omega) FLaw06.sc3 ?_
  obtain ⟨hc23, hR⟩ := hR
  refine Plan.addI (a := tslow4) (b := 1) rfl rfl rfl (by omega) ?_
  refine Plan.nilCheck rfl rfl ?_
  refine Plan.fieldAddr 84 FLaw06.fld47_2 rfl rfl ?_
  refine Plan.storeC_int h21 9 rfl rfl rfl rfl FLaw06.sz3 rfl fun w24 h24 => ?_
  simp only [List.cons_append, List.nil_append, List.set_cons_zero, List.set_cons_succ] at h24
  refine Plan.nil ?_
  refine hK22 _ _ ?_; clear hK22
  refine W.seq_k fun K25 hK25 => ?_
  refine W.seq_k fun K26 hK26 => ?_
  refine W.regionT [(0, true), (1, true), (2, true), (3, true), (4, true)] (by kernel_rfl) ?_
  refine Plan.move_ptr rfl rfl ?_
  refine Plan.nilCheck rfl rfl ?_
  refine Plan.fieldAddr 84 FLaw06.fld47_2 rfl rfl ?_
  refine Plan.load0 h24 9 rfl rfl rfl (by omega) FLaw06.sc3 ?_
  refine Plan.cmpP (a := ((tslow4 + 1) : Int)) (b := (4 : Int)) (p := 4 < (tslow4 + 1)) rfl rfl rfl rfl icmp_gt ?_
  refine Plan.nil ?_
  refine hK26 _ _ ?_; clear hK26
  by_cases hc27 : 4 < (tslow4 + 1)
  ·
    replace hR := ifT hR hc27
    refine W.condT (congrArg Value.bool (decide_eq_true hc27)) ?_
    refine W.seq_k fun K28 hK28 => ?_
    refine W.regionT [(0, true)] (by kernel_rfl) ?_
    refine Plan.assign_bool rfl rfl ?_
    refine Plan.nil ?_
    refine hK28 _ _ ?_; clear hK28
    refine W.ret (thenR_ret (finR_ret ?_))
    have h29 := St.pickT (C := [_, _, _, _, _, _, _, _, _, _]) h24 [7, 8, 9] (by decide)
    simp only [pick, List.filterMap_cons, List.filterMap_nil, List.getElem?_cons_zero, List.getElem?_cons_succ, List.cons_append, List.nil_append] at h29
    subst r
    refine RetOk.mk (.tmp_bool rfl .nil) ?_
    exact ⟨rfl, h29⟩
  ·
    replace hR := ifF hR hc27
    refine W.condF (congrArg Value.bool (decide_eq_false hc27)) ?_
    refine W.skip ?_
    refine hK25 _ _ ?_; clear hK25
    refine W.seq_k fun K30 hK30 => ?_
    refine W.seq_k fun K31 hK31 => ?_
    refine W.regionT [(0, true), (1, true)] (by kernel_rfl) ?_
    refine Plan.fieldAddr0 FLaw06.fld50_0 rfl rfl ?_
    refine Plan.load0 h24 0 rfl rfl rfl (by omega) FLaw06.sc3 ?_
    refine Plan.nil ?_
    refine hK31 _ _ ?_; clear hK31
    refine W.block ?_
    refine W.seq_k fun K32 hK32 => ?_
    refine W.regionT [(0, true), (1, true)] (by kernel_rfl) ?_
    refine Plan.cmpP (a := (oKind5 : Int)) (b := (7 : Int)) (p := oKind5 = 7) rfl rfl rfl rfl icmp_eq ?_
    refine Plan.assign_bool rfl rfl ?_
    refine Plan.nil ?_
    refine hK32 _ _ ?_; clear hK32
    by_cases hc33 : oKind5 = 7
    ·
      replace hR := ifT hR hc33
      refine W.condT (congrArg Value.bool (decide_eq_true hc33)) ?_
      refine W.regionD FLaw06.mixed [(0, true), (1, true), (2, true), (3, true), (4, true), (5, true), (6, true), (7, true), (8, true), (9, true), (10, true), (11, true), (13, true), (14, true), (15, true), (16, true), (17, true), (18, true), (19, true), (20, true), (22, true), (23, true), (26, true), (27, true), (12, false), (21, false), (24, true), (25, false), (28, true), (29, false)] (by kernel_rfl) ?_
      have h34 := h24.drew
      refine Plan.move_ptr rfl rfl ?_
      refine Plan.move_int rfl rfl ?_
      refine Plan.move_ptr rfl rfl ?_
      refine Plan.move_int rfl rfl ?_
      refine Plan.move_ptr rfl rfl ?_
      refine Plan.move_int rfl rfl ?_
      refine Plan.nilCheck rfl rfl ?_
      refine Plan.fieldAddr0 FLaw06.fld47_0 rfl rfl ?_
      obtain ⟨hc35, hR⟩ := hR
      refine Plan.idxArrO (j := x_17.toNat) (o' := 0 + (x_17.toNat * 5)) FLaw06.arr42 rfl rfl (congrArg (Value.int .i64) (Int.toNat_of_nonneg hc35.1).symm) (by omega) (by omega) ?_
      refine Plan.loadSub (m' := 5) h34 7 (x_17.toNat * 5) rfl rfl rfl rfl (by omega) FLaw06.agg28 ?_
      refine Plan.fieldAddr 4 FLaw06.fld50_4 rfl rfl ?_
      refine Plan.loadA1 h34 4 rfl rfl rfl FLaw06.agg23 ?_
      refine Plan.move_ptr rfl rfl ?_
      refine Plan.move_int rfl rfl ?_
      refine Plan.nilCheck rfl rfl ?_
      refine Plan.fieldAddr 20 FLaw06.fld47_1 rfl rfl ?_
      obtain ⟨hc36, hR⟩ := hR
      refine Plan.idxArrO (j := x_17.toNat) (o' := 20 + (x_17.toNat * 16)) FLaw06.arr45 rfl rfl (congrArg (Value.int .i64) (Int.toNat_of_nonneg hc36.1).symm) (by omega) (by omega) ?_
      refine Plan.loadSub (m' := 16) h34 8 (x_17.toNat * 16) rfl rfl rfl rfl (by omega) FLaw06.agg44 ?_
      refine Plan.fieldAddr 4 FLaw06.fld50_4 rfl rfl ?_
      refine Plan.loadA1 h34 4 rfl rfl rfl FLaw06.agg23 ?_
      refine Plan.nilCheck rfl rfl ?_
      refine Plan.fieldAddr0 FLaw06.fld47_0 rfl rfl ?_
      refine Plan.nilCheck rfl rfl ?_
      refine Plan.fieldAddr 20 FLaw06.fld47_1 rfl rfl ?_
      obtain ⟨x_38, hr37, hR⟩ := hR
      refine Plan.call (vs := [AG [(5, fun q => VU .u64 ((fun q => tp2 ((x_17.toNat * 5) + q)) q))], AG [(32, fun q => VU .u8 (oK9 q))]]) rfl FLaw06.call36 rfl (field_Elem_Pow_ok  hr37 h34) ?_
      rintro _ w39 ⟨rfl, h39⟩
      refine ⟨_, rfl, .inl ⟨PIn.keep (PIn.cons 4 rfl (PIn.cons 8 rfl (PIn.cons 4 rfl (PIn.cons 7 rfl PIn.nil)))) h39, ?_⟩⟩
      obtain ⟨x_41, hr40, hR⟩ := hR
      refine Plan.call (vs := [AG [(16, fun q => .int .i64 ((fun q => tr3 ((x_17.toNat * 16) + q)) q))], AG [(32, fun q => VU .u8 (oK9 q))]]) rfl FLaw06.call63 rfl (letheref06_Pow_ok  hr40 h39) ?_
      rintro _ w42 ⟨rfl, h42⟩
      refine ⟨_, rfl, .inl ⟨PIn.keep (PIn.cons 4 rfl (PIn.cons 8 rfl (PIn.cons 4 rfl (PIn.cons 7 rfl PIn.nil)))) h42, ?_⟩⟩
      obtain ⟨hc43, hR⟩ := hR
      refine Plan.idxArrO (j := x_20.toNat) (o' := 0 + (x_20.toNat * 5)) FLaw06.arr42 rfl rfl (congrArg (Value.int .i64) (Int.toNat_of_nonneg hc43.1).symm) (by omega) (by omega) ?_
      refine Plan.storeSub (m' := 5) (j := x_20.toNat * 5) (f' := fun q => VU .u64 (x_38 q)) h42 7 rfl rfl rfl rfl rfl (by omega) (fun _ _ => rfl) FLaw06.sz28 (EffO.mix _ (Filt.keep rfl (Filt.drop rfl (Filt.drop rfl (Filt.drop rfl Filt.nil)))) (PIn.cons 4 rfl PIn.nil)) fun w44 h44 => ?_
      simp only [List.cons_append, List.nil_append, List.set_cons_zero, List.set_cons_succ] at h44
      simp only [← spl_map (fun z => VU .u64 z)] at h44
      obtain ⟨hc45, hR⟩ := hR
      refine Plan.idxArrO (j := x_20.toNat) (o' := 20 + (x_20.toNat * 16)) FLaw06.arr45 rfl rfl (congrArg (Value.int .i64) (Int.toNat_of_nonneg hc45.1).symm) (by omega) (by omega) ?_
      refine Plan.storeSub (m' := 16) (j := x_20.toNat * 16) (f' := fun q => .int .i64 (x_41 q)) h44 8 rfl rfl rfl rfl rfl (by omega) (fun _ _ => rfl) FLaw06.sz44 (EffO.wait rfl) fun w46 h46 => ?_
      simp only [List.cons_append, List.nil_append, List.set_cons_zero, List.set_cons_succ] at h46
      simp only [← spl_map (fun z => Value.int .i64 z)] at h46
      refine Plan.nil ?_
      refine blockR_norm ?_
      refine hK30 _ _ ?_; clear hK30
      refine W.seq_k fun K47 hK47 => ?_
      refine W.regionT [(0, true)] (by kernel_rfl) ?_
      refine Plan.assign_bool rfl rfl ?_
      refine Plan.nil ?_
      refine hK47 _ _ ?_; clear hK47
      refine W.ret (finR_ret ?_)
      have h48 := St.pickT (C := [_, _, _, _, _, _, _, _, _, _]) h46 [7, 8, 9] (by decide)
      simp only [pick, List.filterMap_cons, List.filterMap_nil, List.getElem?_cons_zero, List.getElem?_cons_succ, List.cons_append, List.nil_append] at h48
      subst r
      refine RetOk.mk (.tmp_bool rfl .nil) ?_
      exact ⟨rfl, h48⟩
    ·
      replace hR := ifF hR hc33
      refine W.condF (congrArg Value.bool (decide_eq_false hc33)) ?_
      refine W.seq_k fun K49 hK49 => ?_
      refine W.regionT [(0, true), (1, true)] (by kernel_rfl) ?_
      refine Plan.cmpP (a := (oKind5 : Int)) (b := (8 : Int)) (p := oKind5 = 8) rfl rfl rfl rfl icmp_eq ?_
      refine Plan.assign_bool rfl rfl ?_
      refine Plan.nil ?_
      refine hK49 _ _ ?_; clear hK49
      by_cases hc50 : oKind5 = 8
      ·
        replace hR := ifT hR hc50
        refine W.condT (congrArg Value.bool (decide_eq_true hc50)) ?_
        refine W.regionD FLaw06.mixed [(0, true), (1, true), (2, true), (3, true), (4, true), (5, true), (6, true), (7, true), (8, true), (9, true), (11, true), (12, true), (13, true), (14, true), (15, true), (16, true), (18, true), (19, true), (22, true), (23, true), (10, false), (17, false), (20, true), (21, false), (24, true), (25, false)] (by kernel_rfl) ?_
        have h51 := h24.drew
        refine Plan.move_ptr rfl rfl ?_
        refine Plan.move_int rfl rfl ?_
        refine Plan.move_ptr rfl rfl ?_
        refine Plan.move_int rfl rfl ?_
        refine Plan.move_ptr rfl rfl ?_
        refine Plan.move_int rfl rfl ?_
        refine Plan.nilCheck rfl rfl ?_
        refine Plan.fieldAddr0 FLaw06.fld47_0 rfl rfl ?_
        obtain ⟨hc52, hR⟩ := hR
        refine Plan.idxArrO (j := x_17.toNat) (o' := 0 + (x_17.toNat * 5)) FLaw06.arr42 rfl rfl (congrArg (Value.int .i64) (Int.toNat_of_nonneg hc52.1).symm) (by omega) (by omega) ?_
        refine Plan.loadSub (m' := 5) h51 7 (x_17.toNat * 5) rfl rfl rfl rfl (by omega) FLaw06.agg28 ?_
        refine Plan.move_ptr rfl rfl ?_
        refine Plan.move_int rfl rfl ?_
        refine Plan.nilCheck rfl rfl ?_
        refine Plan.fieldAddr 20 FLaw06.fld47_1 rfl rfl ?_
        obtain ⟨hc53, hR⟩ := hR
        refine Plan.idxArrO (j := x_17.toNat) (o' := 20 + (x_17.toNat * 16)) FLaw06.arr45 rfl rfl (congrArg (Value.int .i64) (Int.toNat_of_nonneg hc53.1).symm) (by omega) (by omega) ?_
        refine Plan.loadSub (m' := 16) h51 8 (x_17.toNat * 16) rfl rfl rfl rfl (by omega) FLaw06.agg44 ?_
        refine Plan.nilCheck rfl rfl ?_
        refine Plan.fieldAddr0 FLaw06.fld47_0 rfl rfl ?_
        refine Plan.nilCheck rfl rfl ?_
        refine Plan.fieldAddr 20 FLaw06.fld47_1 rfl rfl ?_
        obtain ⟨x_55, hr54, hR⟩ := hR
        refine Plan.call (vs := [AG [(5, fun q => VU .u64 ((fun q => tp2 ((x_17.toNat * 5) + q)) q))]]) rfl FLaw06.call52 rfl (field_Elem_Inv_ok  hr54 h51) ?_
        rintro _ w56 ⟨rfl, h56⟩
        refine ⟨_, rfl, .inl ⟨PIn.keep (PIn.cons 8 rfl (PIn.cons 7 rfl PIn.nil)) h56, ?_⟩⟩
        obtain ⟨x_58, hr57, hR⟩ := hR
        refine Plan.call (vs := [AG [(16, fun q => .int .i64 ((fun q => tr3 ((x_17.toNat * 16) + q)) q))]]) rfl FLaw06.call64 rfl (letheref06_Inv_ok  hr57 h56) ?_
        rintro _ w59 ⟨rfl, h59⟩
        refine ⟨_, rfl, .inl ⟨PIn.keep (PIn.cons 8 rfl (PIn.cons 7 rfl PIn.nil)) h59, ?_⟩⟩
        obtain ⟨hc60, hR⟩ := hR
        refine Plan.idxArrO (j := x_20.toNat) (o' := 0 + (x_20.toNat * 5)) FLaw06.arr42 rfl rfl (congrArg (Value.int .i64) (Int.toNat_of_nonneg hc60.1).symm) (by omega) (by omega) ?_
        refine Plan.storeSub (m' := 5) (j := x_20.toNat * 5) (f' := fun q => VU .u64 (x_55 q)) h59 7 rfl rfl rfl rfl rfl (by omega) (fun _ _ => rfl) FLaw06.sz28 (EffO.wait rfl) fun w61 h61 => ?_
        simp only [List.cons_append, List.nil_append, List.set_cons_zero, List.set_cons_succ] at h61
        simp only [← spl_map (fun z => VU .u64 z)] at h61
        obtain ⟨hc62, hR⟩ := hR
        refine Plan.idxArrO (j := x_20.toNat) (o' := 20 + (x_20.toNat * 16)) FLaw06.arr45 rfl rfl (congrArg (Value.int .i64) (Int.toNat_of_nonneg hc62.1).symm) (by omega) (by omega) ?_
        refine Plan.storeSub (m' := 16) (j := x_20.toNat * 16) (f' := fun q => .int .i64 (x_58 q)) h61 8 rfl rfl rfl rfl rfl (by omega) (fun _ _ => rfl) FLaw06.sz44 (EffO.keep PIn.nil) fun w63 h63 => ?_
        simp only [List.cons_append, List.nil_append, List.set_cons_zero, List.set_cons_succ] at h63
        simp only [← spl_map (fun z => Value.int .i64 z)] at h63
        refine Plan.nil ?_
        refine blockR_norm ?_
        refine hK30 _ _ ?_; clear hK30
        refine W.seq_k fun K64 hK64 => ?_
        refine W.regionT [(0, true)] (by kernel_rfl) ?_
        refine Plan.assign_bool rfl rfl ?_
        refine Plan.nil ?_
        refine hK64 _ _ ?_; clear hK64
        refine W.ret (finR_ret ?_)
        have h65 := St.pickT (C := [_, _, _, _, _, _, _, _, _, _]) h63 [7, 8, 9] (by decide)
        simp only [pick, List.filterMap_cons, List.filterMap_nil, List.getElem?_cons_zero, List.getElem?_cons_succ, List.cons_append, List.nil_append] at h65
        subst r
        refine RetOk.mk (.tmp_bool rfl .nil) ?_
        exact ⟨rfl, h65⟩
      ·
        replace hR := ifF hR hc50
        refine W.condF (congrArg Value.bool (decide_eq_false hc50)) ?_
        refine W.seq_k fun K66 hK66 => ?_
        refine W.regionT [(0, true), (1, true)] (by kernel_rfl) ?_
        refine Plan.cmpP (a := (oKind5 : Int)) (b := (9 : Int)) (p := oKind5 = 9) rfl rfl rfl rfl icmp_eq ?_
        refine Plan.assign_bool rfl rfl ?_
        refine Plan.nil ?_
        refine hK66 _ _ ?_; clear hK66
        by_cases hc67 : oKind5 = 9
        ·
          replace hR := ifT hR hc67
          refine W.condT (congrArg Value.bool (decide_eq_true hc67)) ?_
          refine W.seq_k fun K68 hK68 => ?_
          refine W.regionT [(0, true), (1, true), (2, true), (3, true), (4, true), (5, true), (6, false), (7, true), (8, true), (9, true), (10, false), (11, false), (12, true)] (by kernel_rfl) ?_
          refine Plan.move_ptr rfl rfl ?_
          refine Plan.move_int rfl rfl ?_
          refine Plan.nilCheck rfl rfl ?_
          refine Plan.fieldAddr0 FLaw06.fld47_0 rfl rfl ?_
          obtain ⟨hc69, hR⟩ := hR
          refine Plan.idxArrO (j := x_17.toNat) (o' := 0 + (x_17.toNat * 5)) FLaw06.arr42 rfl rfl (congrArg (Value.int .i64) (Int.toNat_of_nonneg hc69.1).symm) (by omega) (by omega) ?_
          refine Plan.loadSub (m' := 5) h24 7 (x_17.toNat * 5) rfl rfl rfl rfl (by omega) FLaw06.agg28 ?_
          obtain ⟨x_71, x_72, hr70, hR⟩ := hR
          refine Plan.call (vs := [AG [(5, fun q => VU .u64 ((fun q => tp2 ((x_17.toNat * 5) + q)) q))]]) rfl FLaw06.call20 rfl (field_Elem_Root_ok (iG0 := iG0 + 10) hG0 hr70 h24) ?_
          rintro _ w73 ⟨rfl, h73⟩
          refine ⟨_, rfl, .inr ⟨rfl, ?_⟩⟩
          refine Plan.move_tuple rfl rfl ?_
          refine Plan.extract_agg rfl rfl rfl ?_
          refine Plan.extract_bool rfl rfl rfl ?_
          refine Plan.alloc h73 rfl FLaw06.z28 PIn.nil fun b74 w74 hb74 h74 => ?_
          simp only [rngs, Nat.zero_add, Nat.reduceAdd, List.cons_append, List.nil_append] at h74
          refine Plan.storeA (f' := fun q => VU .u64 (x_71 q)) h74 0 rfl rfl rfl rfl (fun _ _ => rfl) FLaw06.sz28 rfl fun w75 h75 => ?_
          simp only [List.cons_append, List.nil_append, List.set_cons_zero, List.set_cons_succ] at h75
          refine Plan.assign_bool rfl rfl ?_
          refine Plan.nil ?_
          refine hK68 _ _ ?_; clear hK68
          refine W.seq_k fun K76 hK76 => ?_
          refine W.regionT [(0, true), (1, true), (2, true), (3, true), (4, true), (5, true), (6, false), (7, true), (8, true), (9, true), (10, false), (11, false), (12, true)] (by kernel_rfl) ?_
          refine Plan.move_ptr rfl rfl ?_
          refine Plan.move_int rfl rfl ?_
          refine Plan.nilCheck rfl rfl ?_
          refine Plan.fieldAddr 20 FLaw06.fld47_1 rfl rfl ?_
          obtain ⟨hc77, hR⟩ := hR
          refine Plan.idxArrO (j := x_17.toNat) (o' := 20 + (x_17.toNat * 16)) FLaw06.arr45 rfl rfl (congrArg (Value.int .i64) (Int.toNat_of_nonneg hc77.1).symm) (by omega) (by omega) ?_
          refine Plan.loadSub (m' := 16) h75 9 (x_17.toNat * 16) rfl rfl rfl rfl (by omega) FLaw06.agg44 ?_
          obtain ⟨x_79, x_80, hr78, hR⟩ := hR
          refine Plan.call (vs := [AG [(16, fun q => .int .i64 ((fun q => tr3 ((x_17.toNat * 16) + q)) q))]]) rfl FLaw06.call65 rfl (letheref06_Sqrt_ok  hr78 h75) ?_
          rintro _ w81 ⟨rfl, h81⟩
          refine ⟨_, rfl, .inr ⟨rfl, ?_⟩⟩
          refine Plan.move_tuple rfl rfl ?_
          refine Plan.extract_agg rfl rfl rfl ?_
          refine Plan.extract_bool rfl rfl rfl ?_
          refine Plan.alloc h81 rfl FLaw06.z44 PIn.nil fun b82 w82 hb82 h82 => ?_
          simp only [rngs, Nat.zero_add, Nat.reduceAdd, List.cons_append, List.nil_append] at h82
          refine Plan.storeA (f' := fun q => .int .i64 (x_79 q)) h82 0 rfl rfl rfl rfl (fun _ _ => rfl) FLaw06.sz44 rfl fun w83 h83 => ?_
          simp only [List.cons_append, List.nil_append, List.set_cons_zero, List.set_cons_succ] at h83
          refine Plan.assign_bool rfl rfl ?_
          refine Plan.nil ?_
          refine hK76 _ _ ?_; clear hK76
          refine W.seq_k fun K84 hK84 => ?_
          refine W.regionD FLaw06.mixed [(0, true), (1, true), (2, true), (3, true), (4, true), (5, true), (6, true), (7, true), (8, true), (10, true), (11, true), (9, false), (12, true), (13, false)] (by kernel_rfl) ?_
          have h85 := h83.drew
          refine Plan.move_ptr rfl rfl ?_
          refine Plan.move_int rfl rfl ?_
          refine Plan.move_ptr rfl rfl ?_
          refine Plan.move_int rfl rfl ?_
          refine Plan.loadA1 h85 1 rfl rfl rfl FLaw06.agg28 ?_
          refine Plan.loadA1 h85 0 rfl rfl rfl FLaw06.agg44 ?_
          refine Plan.nilCheck rfl rfl ?_
          refine Plan.fieldAddr0 FLaw06.fld47_0 rfl rfl ?_
          obtain ⟨hc86, hR⟩ := hR
          refine Plan.idxArrO (j := x_20.toNat) (o' := 0 + (x_20.toNat * 5)) FLaw06.arr42 rfl rfl (congrArg (Value.int .i64) (Int.toNat_of_nonneg hc86.1).symm) (by omega) (by omega) ?_
          refine Plan.nilCheck rfl rfl ?_
          refine Plan.fieldAddr 20 FLaw06.fld47_1 rfl rfl ?_
          refine Plan.storeSub (m' := 5) (j := x_20.toNat * 5) (f' := fun q => VU .u64 (x_71 q)) h85 9 rfl rfl rfl rfl rfl (by omega) (fun _ _ => rfl) FLaw06.sz28 (EffO.mix _ (Filt.keep rfl (Filt.drop rfl Filt.nil)) (PIn.cons 0 rfl PIn.nil)) fun w87 h87 => ?_
          simp only [List.cons_append, List.nil_append, List.set_cons_zero, List.set_cons_succ] at h87
          simp only [← spl_map (fun z => VU .u64 z)] at h87
          obtain ⟨hc88, hR⟩ := hR
          refine Plan.idxArrO (j := x_20.toNat) (o' := 20 + (x_20.toNat * 16)) FLaw06.arr45 rfl rfl (congrArg (Value.int .i64) (Int.toNat_of_nonneg hc88.1).symm) (by omega) (by omega) ?_
          refine Plan.storeSub (m' := 16) (j := x_20.toNat * 16) (f' := fun q => .int .i64 (x_79 q)) h87 10 rfl rfl rfl rfl rfl (by omega) (fun _ _ => rfl) FLaw06.sz44 (EffO.wait rfl) fun w89 h89 => ?_
          simp only [List.cons_append, List.nil_append, List.set_cons_zero, List.set_cons_succ] at h89
          simp only [← spl_map (fun z => Value.int .i64 z)] at h89
          refine Plan.nil ?_
          refine hK84 _ _ ?_; clear hK84
          refine W.seq_k fun K90 hK90 => ?_
          refine W.regionT [(0, true), (1, true), (2, true), (3, true)] (by kernel_rfl) ?_
          refine Plan.move_bool rfl rfl ?_
          refine Plan.move_bool rfl rfl ?_
          refine Plan.eqBoolV (v := (x_72 == x_80)) FLaw06.bool4 rfl rfl rfl rfl ?_
          refine Plan.assign_bool rfl rfl ?_
          refine Plan.nil ?_
          refine hK90 _ _ ?_; clear hK90
          refine W.ret (blockR_ret (thenR_ret (finR_ret ?_)))
          have h91 := St.pickT (C := [_, _, _, _, _, _, _, _, _, _, _, _]) h89 [9, 10, 11] (by decide)
          simp only [pick, List.filterMap_cons, List.filterMap_nil, List.getElem?_cons_zero, List.getElem?_cons_succ, List.cons_append, List.nil_append] at h91
          subst r
          refine RetOk.mk (.tmp_bool rfl .nil) ?_
          exact ⟨rfl, h91⟩
        ·
          replace hR := ifF hR hc67
          refine W.condF (congrArg Value.bool (decide_eq_false hc67)) ?_
          refine W.skip ?_
          refine blockR_norm ?_
          refine hK30 _ _ ?_; clear hK30
          refine W.seq_k fun K92 hK92 => ?_
          refine W.regionT [(0, true)] (by kernel_rfl) ?_
          refine Plan.assign_bool rfl rfl ?_
          refine Plan.nil ?_
          refine hK92 _ _ ?_; clear hK92
          refine W.ret (finR_ret ?_)
          have h93 := St.pickT (C := [_, _, _, _, _, _, _, _, _, _]) h24 [7, 8, 9] (by decide)
          simp only [pick, List.filterMap_cons, List.filterMap_nil, List.getElem?_cons_zero, List.getElem?_cons_succ, List.cons_append, List.nil_append] at h93
          subst r
          refine RetOk.mk (.tmp_bool rfl .nil) ?_
          exact ⟨rfl, h93⟩


set_option maxRecDepth 8000 in
set_option maxHeartbeats 1000000 in
theorem lethelaw06_table_plays_ok {B : Nat} {w0 w : World} {L : List Rg} {iG0 : Nat} (hG0 : L[iG0]? = some ⟨some 0, 0, 5, fun q => VU .u64 (twice5 q), false⟩) {bt1 : Nat} {tp2 : Nat → BitVec 64} {tr3 : Nat → Int} {tslow4 : Int} {oKind5 : Int} {oA6 : Int} {oB7 : Int} {oC8 : Int} {oK9 : Nat → BitVec 8} {oN10 : BitVec 32} {oBit11 : Int} {r : (Bool × (Nat → BitVec 64) × (Nat → Int) × Int)} (hR : lethelaw06_table_plays tp2 tr3 tslow4 oKind5 oA6 oB7 oC8 oK9 oN10 oBit11 r) (HST : St B w0 (⟨some bt1, 0, 20, fun q => VU .u64 (tp2 q), true⟩ :: ⟨some bt1, 20, 64, fun q => .int .i64 (tr3 q), true⟩ :: ⟨some bt1, 84, 1, fun _ => .int .i64 tslow4, true⟩ :: L) w) :
    Calls Tryd.prog 21 #[.pointer (some ⟨bt1, 0, none⟩), AG [(1, fun _ => .int .i64 oKind5), (1, fun _ => .int .i64 oA6), (1, fun _ => .int .i64 oB7), (1, fun _ => .int .i64 oC8), (32, fun q => VU .u8 (oK9 q)), (1, fun _ => VU .u32 oN10), (1, fun _ => .int .i64 oBit11)]] w fun e w' => e = .returned (.bool r.1) ∧ St B w0 (⟨some bt1, 0, 20, fun q => VU .u64 (r.2.1 q), true⟩ :: ⟨some bt1, 20, 64, fun q => .int .i64 (r.2.2.1 q), true⟩ :: ⟨some bt1, 84, 1, fun _ => .int .i64 r.2.2.2, true⟩ :: L) w' := by
  refine W.enter 301 Tryd.func21 rfl rfl rfl ?_
  unfold lethelaw06_table_plays at hR
  refine W.seq_k fun K12 hK12 => ?_
  refine W.regionT [(0, false), (1, true)] (by kernel_rfl) ?_
  refine Plan.boxA HST rfl rfl PIn.nil fun b13 w13 hb13 h13 => ?_
  simp only [rngs, Nat.zero_add, Nat.reduceAdd, List.cons_append, List.nil_append] at h13
  refine Plan.assign_bool rfl rfl ?_
  refine Plan.nil ?_
  refine hK12 _ _ ?_; clear hK12
  refine W.seq_k fun K14 hK14 => ?_
  refine W.regionD FLaw06.mixed [(0, true), (1, true), (3, true), (4, true), (6, true), (7, true), (2, false), (5, false), (8, false), (9, true), (10, true), (11, true)] (by kernel_rfl) ?_
  have h15 := h13.drew
  refine Plan.fieldAddr 1 FLaw06.fld50_1 rfl rfl ?_
  refine Plan.load0 h15 1 rfl rfl rfl (by omega) FLaw06.sc3 ?_
  refine Plan.fieldAddr 2 FLaw06.fld50_2 rfl rfl ?_
  refine Plan.load0 h15 2 rfl rfl rfl (by omega) FLaw06.sc3 ?_
  refine Plan.fieldAddr 3 FLaw06.fld50_3 rfl rfl ?_
  refine Plan.load0 h15 3 rfl rfl rfl (by omega) FLaw06.sc3 ?_
  obtain ⟨x_17, hr16, hR⟩ := hR
  refine Plan.call (vs := [.int .i64 oA6, VN 4]) rfl FLaw06.call38 rfl (lethelaw06_rest_ok  hr16 h15) ?_
  rintro _ w18 ⟨rfl, h18⟩
  refine ⟨_, rfl, .inl ⟨PIn.keep (PIn.cons 3 rfl (PIn.cons 2 rfl (PIn.cons 1 rfl PIn.nil))) h18, ?_⟩⟩
  obtain ⟨x_20, hr19, hR⟩ := hR
  refine Plan.call (vs := [.int .i64 oB7, VN 4]) rfl FLaw06.call38 rfl (lethelaw06_rest_ok  hr19 h18) ?_
  rintro _ w21 ⟨rfl, h21⟩
  refine ⟨_, rfl, .inl ⟨PIn.keep (PIn.cons 3 rfl (PIn.cons 2 rfl (PIn.cons 1 rfl PIn.nil))) h21, ?_⟩⟩
  obtain ⟨x_23, hr22, hR⟩ := hR
  refine Plan.call (vs := [.int .i64 oC8, VN 4]) rfl FLaw06.call38 rfl (lethelaw06_rest_ok  hr22 h21) ?_
  rintro _ w24 ⟨rfl, h24⟩
  refine ⟨_, rfl, .inl ⟨PIn.keep (PIn.cons 3 rfl (PIn.cons 2 rfl (PIn.cons 1 rfl PIn.nil))) h24, ?_⟩⟩
  refine Plan.assign_int rfl rfl ?_
  refine Plan.assign_int rfl rfl ?_
  refine Plan.assign_int rfl rfl ?_
  refine Plan.nil ?_
  refine hK14 _ _ ?_; clear hK14
  refine W.seq_k fun K25 hK25 => ?_
  refine W.seq_k fun K26 hK26 => ?_
  refine W.regionT [(0, true), (1, true)] (by kernel_rfl) ?_
  refine Plan.fieldAddr0 FLaw06.fld50_0 rfl rfl ?_
  refine Plan.load0 h24 0 rfl rfl rfl (by omega) FLaw06.sc3 ?_
  refine Plan.nil ?_
  refine hK26 _ _ ?_; clear hK26
  refine W.block ?_
  refine W.seq_k fun K27 hK27 => ?_
  refine W.regionT [(0, true), (1, true)] (by kernel_rfl) ?_
  refine Plan.cmpP (a := (oKind5 : Int)) (b := (1 : Int)) (p := oKind5 = 1) rfl rfl rfl rfl icmp_eq ?_
  refine Plan.assign_bool rfl rfl ?_
  refine Plan.nil ?_
  refine hK27 _ _ ?_; clear hK27
  by_cases hc28 : oKind5 = 1
  ·
    replace hR := ifT hR hc28
    refine W.condT (congrArg Value.bool (decide_eq_true hc28)) ?_
    refine W.seq_k fun K29 hK29 => ?_
    refine W.regionD FLaw06.mixed [(0, true), (1, true), (2, true), (3, true), (4, true), (5, true), (7, true), (8, true), (10, true), (11, true), (14, true), (15, true), (6, false), (9, false), (12, true), (13, false), (16, true), (17, false)] (by kernel_rfl) ?_
    have h30 := h24.drew
    refine Plan.move_ptr rfl rfl ?_
    refine Plan.move_int rfl rfl ?_
    refine Plan.move_ptr rfl rfl ?_
    refine Plan.move_int rfl rfl ?_
    refine Plan.fieldAddr 4 FLaw06.fld50_4 rfl rfl ?_
    refine Plan.loadA1 h30 4 rfl rfl rfl FLaw06.agg23 ?_
    refine Plan.fieldAddr 4 FLaw06.fld50_4 rfl rfl ?_
    refine Plan.loadA1 h30 4 rfl rfl rfl FLaw06.agg23 ?_
    refine Plan.nilCheck rfl rfl ?_
    refine Plan.fieldAddr0 FLaw06.fld47_0 rfl rfl ?_
    refine Plan.nilCheck rfl rfl ?_
    refine Plan.fieldAddr 20 FLaw06.fld47_1 rfl rfl ?_
    obtain ⟨x_32, hr31, hR⟩ := hR
    refine Plan.call (vs := [AG [(32, fun q => VU .u8 (oK9 q))]]) rfl FLaw06.call12 rfl (field_Read_ok  hr31 h30) ?_
    rintro _ w33 ⟨rfl, h33⟩
    refine ⟨_, rfl, .inl ⟨PIn.keep (PIn.cons 4 rfl (PIn.cons 4 rfl PIn.nil)) h33, ?_⟩⟩
    obtain ⟨x_35, hr34, hR⟩ := hR
    refine Plan.call (vs := [AG [(32, fun q => VU .u8 (oK9 q))]]) rfl FLaw06.call39 rfl (letheref06_From_ok  hr34 h33) ?_
    rintro _ w36 ⟨rfl, h36⟩
    refine ⟨_, rfl, .inl ⟨PIn.keep (PIn.cons 4 rfl (PIn.cons 4 rfl PIn.nil)) h36, ?_⟩⟩
    obtain ⟨hc37, hR⟩ := hR
    refine Plan.idxArrO (j := x_23.toNat) (o' := 0 + (x_23.toNat * 5)) FLaw06.arr42 rfl rfl (congrArg (Value.int .i64) (Int.toNat_of_nonneg hc37.1).symm) (by omega) (by omega) ?_
    refine Plan.storeSub (m' := 5) (j := x_23.toNat * 5) (f' := fun q => VU .u64 (x_32 q)) h36 7 rfl rfl rfl rfl rfl (by omega) (fun _ _ => rfl) FLaw06.sz28 (EffO.mix _ (Filt.keep rfl (Filt.drop rfl Filt.nil)) (PIn.cons 4 rfl PIn.nil)) fun w38 h38 => ?_
    simp only [List.cons_append, List.nil_append, List.set_cons_zero, List.set_cons_succ] at h38
    simp only [← spl_map (fun z => VU .u64 z)] at h38
    obtain ⟨hc39, hR⟩ := hR
    refine Plan.idxArrO (j := x_23.toNat) (o' := 20 + (x_23.toNat * 16)) FLaw06.arr45 rfl rfl (congrArg (Value.int .i64) (Int.toNat_of_nonneg hc39.1).symm) (by omega) (by omega) ?_
    refine Plan.storeSub (m' := 16) (j := x_23.toNat * 16) (f' := fun q => .int .i64 (x_35 q)) h38 8 rfl rfl rfl rfl rfl (by omega) (fun _ _ => rfl) FLaw06.sz44 (EffO.wait rfl) fun w40 h40 => ?_
    simp only [List.cons_append, List.nil_append, List.set_cons_zero, List.set_cons_succ] at h40
    simp only [← spl_map (fun z => Value.int .i64 z)] at h40
    refine Plan.nil ?_
    refine hK29 _ _ ?_; clear hK29
    refine W.seq_k fun K41 hK41 => ?_
    refine W.regionD FLaw06.mixed [(0, true), (1, true), (3, true), (4, true), (2, false), (5, false), (6, true), (7, true)] (by kernel_rfl) ?_
    have h42 := h40.drew
    refine Plan.fieldAddr 4 FLaw06.fld50_4 rfl rfl ?_
    refine Plan.loadA1 h42 4 rfl rfl rfl FLaw06.agg23 ?_
    refine Plan.fieldAddr 4 FLaw06.fld50_4 rfl rfl ?_
    refine Plan.loadA1 h42 4 rfl rfl rfl FLaw06.agg23 ?_
    obtain ⟨x_44, hr43, hR⟩ := hR
    refine Plan.call (vs := [AG [(32, fun q => VU .u8 (oK9 q))]]) rfl FLaw06.call40 rfl (field_Fits_ok  hr43 h42) ?_
    rintro _ w45 ⟨rfl, h45⟩
    refine ⟨_, rfl, .inl ⟨PIn.keep (PIn.cons 4 rfl (PIn.cons 4 rfl PIn.nil)) h45, ?_⟩⟩
    obtain ⟨x_47, hr46, hR⟩ := hR
    refine Plan.call (vs := [AG [(32, fun q => VU .u8 (oK9 q))]]) rfl FLaw06.call41 rfl (letheref06_Fits_ok  hr46 h45) ?_
    rintro _ w48 ⟨rfl, h48⟩
    refine ⟨_, rfl, .inl ⟨PIn.keep (PIn.cons 4 rfl (PIn.cons 4 rfl PIn.nil)) h48, ?_⟩⟩
    refine Plan.eqBoolV (v := (x_44 == x_47)) FLaw06.bool4 rfl rfl rfl rfl ?_
    refine Plan.assign_bool rfl rfl ?_
    refine Plan.nil ?_
    refine hK41 _ _ ?_; clear hK41
    refine W.ret (blockR_ret (thenR_ret (finR_ret ?_)))
    have h49 := St.pickT (C := [_, _, _, _, _, _, _, _, _, _]) h48 [7, 8, 9] (by decide)
    simp only [pick, List.filterMap_cons, List.filterMap_nil, List.getElem?_cons_zero, List.getElem?_cons_succ, List.cons_append, List.nil_append] at h49
    subst r
    refine RetOk.mk (.tmp_bool rfl .nil) ?_
    exact ⟨rfl, h49⟩
  ·
    replace hR := ifF hR hc28
    refine W.condF (congrArg Value.bool (decide_eq_false hc28)) ?_
    refine W.seq_k fun K50 hK50 => ?_
    refine W.regionT [(0, true), (1, true)] (by kernel_rfl) ?_
    refine Plan.cmpP (a := (oKind5 : Int)) (b := (2 : Int)) (p := oKind5 = 2) rfl rfl rfl rfl icmp_eq ?_
    refine Plan.assign_bool rfl rfl ?_
    refine Plan.nil ?_
    refine hK50 _ _ ?_; clear hK50
    by_cases hc51 : oKind5 = 2
    ·
      replace hR := ifT hR hc51
      refine W.condT (congrArg Value.bool (decide_eq_true hc51)) ?_
      refine W.regionD FLaw06.mixed [(0, true), (1, true), (2, true), (3, true), (4, true), (5, true), (7, true), (8, true), (9, true), (11, true), (12, true), (15, true), (16, true), (6, false), (10, false), (13, true), (14, false), (17, true), (18, false)] (by kernel_rfl) ?_
      have h52 := h24.drew
      refine Plan.move_ptr rfl rfl ?_
      refine Plan.move_int rfl rfl ?_
      refine Plan.move_ptr rfl rfl ?_
      refine Plan.move_int rfl rfl ?_
      refine Plan.fieldAddr 36 FLaw06.fld50_5 rfl rfl ?_
      refine Plan.load0 h52 5 rfl rfl rfl (by omega) FLaw06.sc31 ?_
      refine Plan.fieldAddr 36 FLaw06.fld50_5 rfl rfl ?_
      refine Plan.load0 h52 5 rfl rfl rfl (by omega) FLaw06.sc31 ?_
      refine Plan.convUU .u64 (X := oN10) FLaw06.u24 FLaw06.some31 rfl rfl ?_
      refine Plan.nilCheck rfl rfl ?_
      refine Plan.fieldAddr0 FLaw06.fld47_0 rfl rfl ?_
      refine Plan.nilCheck rfl rfl ?_
      refine Plan.fieldAddr 20 FLaw06.fld47_1 rfl rfl ?_
      obtain ⟨x_54, hr53, hR⟩ := hR
      refine Plan.call (vs := [VU .u32 oN10]) rfl FLaw06.call13 rfl (field_Small_ok  hr53 h52) ?_
      rintro _ w55 ⟨rfl, h55⟩
      refine ⟨_, rfl, .inl ⟨PIn.keep (PIn.cons 5 rfl (PIn.cons 5 rfl PIn.nil)) h55, ?_⟩⟩
      obtain ⟨x_57, hr56, hR⟩ := hR
      refine Plan.call (vs := [VU .u64 (oN10.setWidth 64)]) rfl FLaw06.call42 rfl (letheref06_Int_ok  hr56 h55) ?_
      rintro _ w58 ⟨rfl, h58⟩
      refine ⟨_, rfl, .inl ⟨PIn.keep (PIn.cons 5 rfl (PIn.cons 5 rfl PIn.nil)) h58, ?_⟩⟩
      obtain ⟨hc59, hR⟩ := hR
      refine Plan.idxArrO (j := x_23.toNat) (o' := 0 + (x_23.toNat * 5)) FLaw06.arr42 rfl rfl (congrArg (Value.int .i64) (Int.toNat_of_nonneg hc59.1).symm) (by omega) (by omega) ?_
      refine Plan.storeSub (m' := 5) (j := x_23.toNat * 5) (f' := fun q => VU .u64 (x_54 q)) h58 7 rfl rfl rfl rfl rfl (by omega) (fun _ _ => rfl) FLaw06.sz28 (EffO.mix _ (Filt.keep rfl (Filt.drop rfl Filt.nil)) (PIn.cons 5 rfl PIn.nil)) fun w60 h60 => ?_
      simp only [List.cons_append, List.nil_append, List.set_cons_zero, List.set_cons_succ] at h60
      simp only [← spl_map (fun z => VU .u64 z)] at h60
      obtain ⟨hc61, hR⟩ := hR
      refine Plan.idxArrO (j := x_23.toNat) (o' := 20 + (x_23.toNat * 16)) FLaw06.arr45 rfl rfl (congrArg (Value.int .i64) (Int.toNat_of_nonneg hc61.1).symm) (by omega) (by omega) ?_
      refine Plan.storeSub (m' := 16) (j := x_23.toNat * 16) (f' := fun q => .int .i64 (x_57 q)) h60 8 rfl rfl rfl rfl rfl (by omega) (fun _ _ => rfl) FLaw06.sz44 (EffO.wait rfl) fun w62 h62 => ?_
      simp only [List.cons_append, List.nil_append, List.set_cons_zero, List.set_cons_succ] at h62
      simp only [← spl_map (fun z => Value.int .i64 z)] at h62
      refine Plan.nil ?_
      refine blockR_norm ?_
      refine hK25 _ _ ?_; clear hK25
      refine W.seq_k fun K63 hK63 => ?_
      refine W.regionT [(0, true)] (by kernel_rfl) ?_
      refine Plan.assign_bool rfl rfl ?_
      refine Plan.nil ?_
      refine hK63 _ _ ?_; clear hK63
      refine W.ret (finR_ret ?_)
      have h64 := St.pickT (C := [_, _, _, _, _, _, _, _, _, _]) h62 [7, 8, 9] (by decide)
      simp only [pick, List.filterMap_cons, List.filterMap_nil, List.getElem?_cons_zero, List.getElem?_cons_succ, List.cons_append, List.nil_append] at h64
      subst r
      refine RetOk.mk (.tmp_bool rfl .nil) ?_
      exact ⟨rfl, h64⟩
    ·
      replace hR := ifF hR hc51
      refine W.condF (congrArg Value.bool (decide_eq_false hc51)) ?_
      refine W.seq_k fun K65 hK65 => ?_
      refine W.regionT [(0, true), (1, true)] (by kernel_rfl) ?_
      refine Plan.cmpP (a := (oKind5 : Int)) (b := (3 : Int)) (p := oKind5 = 3) rfl rfl rfl rfl icmp_eq ?_
      refine Plan.assign_bool rfl rfl ?_
      refine Plan.nil ?_
      refine hK65 _ _ ?_; clear hK65
      by_cases hc66 : oKind5 = 3
      ·
        replace hR := ifT hR hc66
        refine W.condT (congrArg Value.bool (decide_eq_true hc66)) ?_
        refine W.regionD FLaw06.mixed [(0, true), (1, true), (2, true), (3, true), (4, true), (5, true), (6, true), (7, true), (8, true), (9, true), (10, true), (11, true), (12, true), (13, true), (14, true), (15, true), (17, true), (18, true), (19, true), (20, true), (21, true), (22, true), (23, true), (24, true), (25, true), (26, true), (27, true), (28, true), (30, true), (31, true), (34, true), (35, true), (16, false), (29, false), (32, true), (33, false), (36, true), (37, false)] (by kernel_rfl) ?_
        have h67 := h24.drew
        refine Plan.move_ptr rfl rfl ?_
        refine Plan.move_int rfl rfl ?_
        refine Plan.move_ptr rfl rfl ?_
        refine Plan.move_int rfl rfl ?_
        refine Plan.move_ptr rfl rfl ?_
        refine Plan.move_int rfl rfl ?_
        refine Plan.nilCheck rfl rfl ?_
        refine Plan.fieldAddr0 FLaw06.fld47_0 rfl rfl ?_
        obtain ⟨hc68, hR⟩ := hR
        refine Plan.idxArrO (j := x_17.toNat) (o' := 0 + (x_17.toNat * 5)) FLaw06.arr42 rfl rfl (congrArg (Value.int .i64) (Int.toNat_of_nonneg hc68.1).symm) (by omega) (by omega) ?_
        refine Plan.loadSub (m' := 5) h67 7 (x_17.toNat * 5) rfl rfl rfl rfl (by omega) FLaw06.agg28 ?_
        refine Plan.move_ptr rfl rfl ?_
        refine Plan.move_int rfl rfl ?_
        refine Plan.nilCheck rfl rfl ?_
        refine Plan.fieldAddr0 FLaw06.fld47_0 rfl rfl ?_
        obtain ⟨hc69, hR⟩ := hR
        refine Plan.idxArrO (j := x_20.toNat) (o' := 0 + (x_20.toNat * 5)) FLaw06.arr42 rfl rfl (congrArg (Value.int .i64) (Int.toNat_of_nonneg hc69.1).symm) (by omega) (by omega) ?_
        refine Plan.loadSub (m' := 5) h67 7 (x_20.toNat * 5) rfl rfl rfl rfl (by omega) FLaw06.agg28 ?_
        refine Plan.move_ptr rfl rfl ?_
        refine Plan.move_int rfl rfl ?_
        refine Plan.nilCheck rfl rfl ?_
        refine Plan.fieldAddr 20 FLaw06.fld47_1 rfl rfl ?_
        obtain ⟨hc70, hR⟩ := hR
        refine Plan.idxArrO (j := x_17.toNat) (o' := 20 + (x_17.toNat * 16)) FLaw06.arr45 rfl rfl (congrArg (Value.int .i64) (Int.toNat_of_nonneg hc70.1).symm) (by omega) (by omega) ?_
        refine Plan.loadSub (m' := 16) h67 8 (x_17.toNat * 16) rfl rfl rfl rfl (by omega) FLaw06.agg44 ?_
        refine Plan.move_ptr rfl rfl ?_
        refine Plan.move_int rfl rfl ?_
        refine Plan.nilCheck rfl rfl ?_
        refine Plan.fieldAddr 20 FLaw06.fld47_1 rfl rfl ?_
        obtain ⟨hc71, hR⟩ := hR
        refine Plan.idxArrO (j := x_20.toNat) (o' := 20 + (x_20.toNat * 16)) FLaw06.arr45 rfl rfl (congrArg (Value.int .i64) (Int.toNat_of_nonneg hc71.1).symm) (by omega) (by omega) ?_
        refine Plan.loadSub (m' := 16) h67 8 (x_20.toNat * 16) rfl rfl rfl rfl (by omega) FLaw06.agg44 ?_
        refine Plan.nilCheck rfl rfl ?_
        refine Plan.fieldAddr0 FLaw06.fld47_0 rfl rfl ?_
        refine Plan.nilCheck rfl rfl ?_
        refine Plan.fieldAddr 20 FLaw06.fld47_1 rfl rfl ?_
        obtain ⟨x_73, hr72, hR⟩ := hR
        refine Plan.call (vs := [AG [(5, fun q => VU .u64 ((fun q => tp2 ((x_17.toNat * 5) + q)) q))], AG [(5, fun q => VU .u64 ((fun q => tp2 ((x_20.toNat * 5) + q)) q))]]) rfl FLaw06.call14 rfl (field_Elem_Add_ok  hr72 h67) ?_
        rintro _ w74 ⟨rfl, h74⟩
        refine ⟨_, rfl, .inl ⟨PIn.keep (PIn.cons 8 rfl (PIn.cons 8 rfl (PIn.cons 7 rfl (PIn.cons 7 rfl PIn.nil)))) h74, ?_⟩⟩
        obtain ⟨x_76, hr75, hR⟩ := hR
        refine Plan.call (vs := [AG [(16, fun q => .int .i64 ((fun q => tr3 ((x_17.toNat * 16) + q)) q))], AG [(16, fun q => .int .i64 ((fun q => tr3 ((x_20.toNat * 16) + q)) q))]]) rfl FLaw06.call43 rfl (letheref06_Add_ok  hr75 h74) ?_
        rintro _ w77 ⟨rfl, h77⟩
        refine ⟨_, rfl, .inl ⟨PIn.keep (PIn.cons 8 rfl (PIn.cons 8 rfl (PIn.cons 7 rfl (PIn.cons 7 rfl PIn.nil)))) h77, ?_⟩⟩
        obtain ⟨hc78, hR⟩ := hR
        refine Plan.idxArrO (j := x_23.toNat) (o' := 0 + (x_23.toNat * 5)) FLaw06.arr42 rfl rfl (congrArg (Value.int .i64) (Int.toNat_of_nonneg hc78.1).symm) (by omega) (by omega) ?_
        refine Plan.storeSub (m' := 5) (j := x_23.toNat * 5) (f' := fun q => VU .u64 (x_73 q)) h77 7 rfl rfl rfl rfl rfl (by omega) (fun _ _ => rfl) FLaw06.sz28 (EffO.wait rfl) fun w79 h79 => ?_
        simp only [List.cons_append, List.nil_append, List.set_cons_zero, List.set_cons_succ] at h79
        simp only [← spl_map (fun z => VU .u64 z)] at h79
        obtain ⟨hc80, hR⟩ := hR
        refine Plan.idxArrO (j := x_23.toNat) (o' := 20 + (x_23.toNat * 16)) FLaw06.arr45 rfl rfl (congrArg (Value.int .i64) (Int.toNat_of_nonneg hc80.1).symm) (by omega) (by omega) ?_
        refine Plan.storeSub (m' := 16) (j := x_23.toNat * 16) (f' := fun q => .int .i64 (x_76 q)) h79 8 rfl rfl rfl rfl rfl (by omega) (fun _ _ => rfl) FLaw06.sz44 (EffO.keep PIn.nil) fun w81 h81 => ?_
        simp only [List.cons_append, List.nil_append, List.set_cons_zero, List.set_cons_succ] at h81
        simp only [← spl_map (fun z => Value.int .i64 z)] at h81
        refine Plan.nil ?_
        refine blockR_norm ?_
        refine hK25 _ _ ?_; clear hK25
        refine W.seq_k fun K82 hK82 => ?_
        refine W.regionT [(0, true)] (by kernel_rfl) ?_
        refine Plan.assign_bool rfl rfl ?_
        refine Plan.nil ?_
        refine hK82 _ _ ?_; clear hK82
        refine W.ret (finR_ret ?_)
        have h83 := St.pickT (C := [_, _, _, _, _, _, _, _, _, _]) h81 [7, 8, 9] (by decide)
        simp only [pick, List.filterMap_cons, List.filterMap_nil, List.getElem?_cons_zero, List.getElem?_cons_succ, List.cons_append, List.nil_append] at h83
        subst r
        refine RetOk.mk (.tmp_bool rfl .nil) ?_
        exact ⟨rfl, h83⟩
      ·
        replace hR := ifF hR hc66
        refine W.condF (congrArg Value.bool (decide_eq_false hc66)) ?_
        refine W.seq_k fun K84 hK84 => ?_
        refine W.regionT [(0, true), (1, true)] (by kernel_rfl) ?_
        refine Plan.cmpP (a := (oKind5 : Int)) (b := (4 : Int)) (p := oKind5 = 4) rfl rfl rfl rfl icmp_eq ?_
        refine Plan.assign_bool rfl rfl ?_
        refine Plan.nil ?_
        refine hK84 _ _ ?_; clear hK84
        by_cases hc85 : oKind5 = 4
        ·
          replace hR := ifT hR hc85
          refine W.condT (congrArg Value.bool (decide_eq_true hc85)) ?_
          refine W.regionD FLaw06.mixed [(0, true), (1, true), (2, true), (3, true), (4, true), (5, true), (6, true), (7, true), (8, true), (9, true), (10, true), (11, true), (12, true), (13, true), (14, true), (15, true), (17, true), (18, true), (19, true), (20, true), (21, true), (22, true), (23, true), (24, true), (25, true), (26, true), (27, true), (28, true), (30, true), (31, true), (34, true), (35, true), (16, false), (29, false), (32, true), (33, false), (36, true), (37, false)] (by kernel_rfl) ?_
          have h86 := h24.drew
          refine Plan.move_ptr rfl rfl ?_
          refine Plan.move_int rfl rfl ?_
          refine Plan.move_ptr rfl rfl ?_
          refine Plan.move_int rfl rfl ?_
          refine Plan.move_ptr rfl rfl ?_
          refine Plan.move_int rfl rfl ?_
          refine Plan.nilCheck rfl rfl ?_
          refine Plan.fieldAddr0 FLaw06.fld47_0 rfl rfl ?_
          obtain ⟨hc87, hR⟩ := hR
          refine Plan.idxArrO (j := x_17.toNat) (o' := 0 + (x_17.toNat * 5)) FLaw06.arr42 rfl rfl (congrArg (Value.int .i64) (Int.toNat_of_nonneg hc87.1).symm) (by omega) (by omega) ?_
          refine Plan.loadSub (m' := 5) h86 7 (x_17.toNat * 5) rfl rfl rfl rfl (by omega) FLaw06.agg28 ?_
          refine Plan.move_ptr rfl rfl ?_
          refine Plan.move_int rfl rfl ?_
          refine Plan.nilCheck rfl rfl ?_
          refine Plan.fieldAddr0 FLaw06.fld47_0 rfl rfl ?_
          obtain ⟨hc88, hR⟩ := hR
          refine Plan.idxArrO (j := x_20.toNat) (o' := 0 + (x_20.toNat * 5)) FLaw06.arr42 rfl rfl (congrArg (Value.int .i64) (Int.toNat_of_nonneg hc88.1).symm) (by omega) (by omega) ?_
          refine Plan.loadSub (m' := 5) h86 7 (x_20.toNat * 5) rfl rfl rfl rfl (by omega) FLaw06.agg28 ?_
          refine Plan.move_ptr rfl rfl ?_
          refine Plan.move_int rfl rfl ?_
          refine Plan.nilCheck rfl rfl ?_
          refine Plan.fieldAddr 20 FLaw06.fld47_1 rfl rfl ?_
          obtain ⟨hc89, hR⟩ := hR
          refine Plan.idxArrO (j := x_17.toNat) (o' := 20 + (x_17.toNat * 16)) FLaw06.arr45 rfl rfl (congrArg (Value.int .i64) (Int.toNat_of_nonneg hc89.1).symm) (by omega) (by omega) ?_
          refine Plan.loadSub (m' := 16) h86 8 (x_17.toNat * 16) rfl rfl rfl rfl (by omega) FLaw06.agg44 ?_
          refine Plan.move_ptr rfl rfl ?_
          refine Plan.move_int rfl rfl ?_
          refine Plan.nilCheck rfl rfl ?_
          refine Plan.fieldAddr 20 FLaw06.fld47_1 rfl rfl ?_
          obtain ⟨hc90, hR⟩ := hR
          refine Plan.idxArrO (j := x_20.toNat) (o' := 20 + (x_20.toNat * 16)) FLaw06.arr45 rfl rfl (congrArg (Value.int .i64) (Int.toNat_of_nonneg hc90.1).symm) (by omega) (by omega) ?_
          refine Plan.loadSub (m' := 16) h86 8 (x_20.toNat * 16) rfl rfl rfl rfl (by omega) FLaw06.agg44 ?_
          refine Plan.nilCheck rfl rfl ?_
          refine Plan.fieldAddr0 FLaw06.fld47_0 rfl rfl ?_
          refine Plan.nilCheck rfl rfl ?_
          refine Plan.fieldAddr 20 FLaw06.fld47_1 rfl rfl ?_
          obtain ⟨x_92, hr91, hR⟩ := hR
          refine Plan.call (vs := [AG [(5, fun q => VU .u64 ((fun q => tp2 ((x_17.toNat * 5) + q)) q))], AG [(5, fun q => VU .u64 ((fun q => tp2 ((x_20.toNat * 5) + q)) q))]]) rfl FLaw06.call17 rfl (field_Elem_Sub_ok (iG0 := iG0 + 10) hG0 hr91 h86) ?_
          rintro _ w93 ⟨rfl, h93⟩
          refine ⟨_, rfl, .inl ⟨PIn.keep (PIn.cons 8 rfl (PIn.cons 8 rfl (PIn.cons 7 rfl (PIn.cons 7 rfl PIn.nil)))) h93, ?_⟩⟩
          obtain ⟨x_95, hr94, hR⟩ := hR
          refine Plan.call (vs := [AG [(16, fun q => .int .i64 ((fun q => tr3 ((x_17.toNat * 16) + q)) q))], AG [(16, fun q => .int .i64 ((fun q => tr3 ((x_20.toNat * 16) + q)) q))]]) rfl FLaw06.call44 rfl (letheref06_Sub_ok  hr94 h93) ?_
          rintro _ w96 ⟨rfl, h96⟩
          refine ⟨_, rfl, .inl ⟨PIn.keep (PIn.cons 8 rfl (PIn.cons 8 rfl (PIn.cons 7 rfl (PIn.cons 7 rfl PIn.nil)))) h96, ?_⟩⟩
          obtain ⟨hc97, hR⟩ := hR
          refine Plan.idxArrO (j := x_23.toNat) (o' := 0 + (x_23.toNat * 5)) FLaw06.arr42 rfl rfl (congrArg (Value.int .i64) (Int.toNat_of_nonneg hc97.1).symm) (by omega) (by omega) ?_
          refine Plan.storeSub (m' := 5) (j := x_23.toNat * 5) (f' := fun q => VU .u64 (x_92 q)) h96 7 rfl rfl rfl rfl rfl (by omega) (fun _ _ => rfl) FLaw06.sz28 (EffO.wait rfl) fun w98 h98 => ?_
          simp only [List.cons_append, List.nil_append, List.set_cons_zero, List.set_cons_succ] at h98
          simp only [← spl_map (fun z => VU .u64 z)] at h98
          obtain ⟨hc99, hR⟩ := hR
          refine Plan.idxArrO (j := x_23.toNat) (o' := 20 + (x_23.toNat * 16)) FLaw06.arr45 rfl rfl (congrArg (Value.int .i64) (Int.toNat_of_nonneg hc99.1).symm) (by omega) (by omega) ?_
          refine Plan.storeSub (m' := 16) (j := x_23.toNat * 16) (f' := fun q => .int .i64 (x_95 q)) h98 8 rfl rfl rfl rfl rfl (by omega) (fun _ _ => rfl) FLaw06.sz44 (EffO.keep PIn.nil) fun w100 h100 => ?_
          simp only [List.cons_append, List.nil_append, List.set_cons_zero, List.set_cons_succ] at h100
          simp only [← spl_map (fun z => Value.int .i64 z)] at h100
          refine Plan.nil ?_
          refine blockR_norm ?_
          refine hK25 _ _ ?_; clear hK25
          refine W.seq_k fun K101 hK101 => ?_
          refine W.regionT [(0, true)] (by kernel_rfl) ?_
          refine Plan.assign_bool rfl rfl ?_
          refine Plan.nil ?_
          refine hK101 _ _ ?_; clear hK101
          refine W.ret (finR_ret ?_)
          have h102 := St.pickT (C := [_, _, _, _, _, _, _, _, _, _]) h100 [7, 8, 9] (by decide)
          simp only [pick, List.filterMap_cons, List.filterMap_nil, List.getElem?_cons_zero, List.getElem?_cons_succ, List.cons_append, List.nil_append] at h102
          subst r
          refine RetOk.mk (.tmp_bool rfl .nil) ?_
          exact ⟨rfl, h102⟩
        ·
          replace hR := ifF hR hc85
          refine W.condF (congrArg Value.bool (decide_eq_false hc85)) ?_
          refine W.seq_k fun K103 hK103 => ?_
          refine W.regionT [(0, true), (1, true)] (by kernel_rfl) ?_
          refine Plan.cmpP (a := (oKind5 : Int)) (b := (5 : Int)) (p := oKind5 = 5) rfl rfl rfl rfl icmp_eq ?_
          refine Plan.assign_bool rfl rfl ?_
          refine Plan.nil ?_
          refine hK103 _ _ ?_; clear hK103
          by_cases hc104 : oKind5 = 5
          ·
            replace hR := ifT hR hc104
            refine W.condT (congrArg Value.bool (decide_eq_true hc104)) ?_
            refine W.regionD FLaw06.mixed [(0, true), (1, true), (2, true), (3, true), (4, true), (5, true), (6, true), (7, true), (8, true), (9, true), (10, true), (11, true), (12, true), (13, true), (14, true), (15, true), (17, true), (18, true), (19, true), (20, true), (21, true), (22, true), (23, true), (24, true), (25, true), (26, true), (27, true), (28, true), (30, true), (31, true), (34, true), (35, true), (16, false), (29, false), (32, true), (33, false), (36, true), (37, false)] (by kernel_rfl) ?_
            have h105 := h24.drew
            refine Plan.move_ptr rfl rfl ?_
            refine Plan.move_int rfl rfl ?_
            refine Plan.move_ptr rfl rfl ?_
            refine Plan.move_int rfl rfl ?_
            refine Plan.move_ptr rfl rfl ?_
            refine Plan.move_int rfl rfl ?_
            refine Plan.nilCheck rfl rfl ?_
            refine Plan.fieldAddr0 FLaw06.fld47_0 rfl rfl ?_
            obtain ⟨hc106, hR⟩ := hR
            refine Plan.idxArrO (j := x_17.toNat) (o' := 0 + (x_17.toNat * 5)) FLaw06.arr42 rfl rfl (congrArg (Value.int .i64) (Int.toNat_of_nonneg hc106.1).symm) (by omega) (by omega) ?_
            refine Plan.loadSub (m' := 5) h105 7 (x_17.toNat * 5) rfl rfl rfl rfl (by omega) FLaw06.agg28 ?_
            refine Plan.move_ptr rfl rfl ?_
            refine Plan.move_int rfl rfl ?_
            refine Plan.nilCheck rfl rfl ?_
            refine Plan.fieldAddr0 FLaw06.fld47_0 rfl rfl ?_
            obtain ⟨hc107, hR⟩ := hR
            refine Plan.idxArrO (j := x_20.toNat) (o' := 0 + (x_20.toNat * 5)) FLaw06.arr42 rfl rfl (congrArg (Value.int .i64) (Int.toNat_of_nonneg hc107.1).symm) (by omega) (by omega) ?_
            refine Plan.loadSub (m' := 5) h105 7 (x_20.toNat * 5) rfl rfl rfl rfl (by omega) FLaw06.agg28 ?_
            refine Plan.move_ptr rfl rfl ?_
            refine Plan.move_int rfl rfl ?_
            refine Plan.nilCheck rfl rfl ?_
            refine Plan.fieldAddr 20 FLaw06.fld47_1 rfl rfl ?_
            obtain ⟨hc108, hR⟩ := hR
            refine Plan.idxArrO (j := x_17.toNat) (o' := 20 + (x_17.toNat * 16)) FLaw06.arr45 rfl rfl (congrArg (Value.int .i64) (Int.toNat_of_nonneg hc108.1).symm) (by omega) (by omega) ?_
            refine Plan.loadSub (m' := 16) h105 8 (x_17.toNat * 16) rfl rfl rfl rfl (by omega) FLaw06.agg44 ?_
            refine Plan.move_ptr rfl rfl ?_
            refine Plan.move_int rfl rfl ?_
            refine Plan.nilCheck rfl rfl ?_
            refine Plan.fieldAddr 20 FLaw06.fld47_1 rfl rfl ?_
            obtain ⟨hc109, hR⟩ := hR
            refine Plan.idxArrO (j := x_20.toNat) (o' := 20 + (x_20.toNat * 16)) FLaw06.arr45 rfl rfl (congrArg (Value.int .i64) (Int.toNat_of_nonneg hc109.1).symm) (by omega) (by omega) ?_
            refine Plan.loadSub (m' := 16) h105 8 (x_20.toNat * 16) rfl rfl rfl rfl (by omega) FLaw06.agg44 ?_
            refine Plan.nilCheck rfl rfl ?_
            refine Plan.fieldAddr0 FLaw06.fld47_0 rfl rfl ?_
            refine Plan.nilCheck rfl rfl ?_
            refine Plan.fieldAddr 20 FLaw06.fld47_1 rfl rfl ?_
            obtain ⟨x_111, hr110, hR⟩ := hR
            refine Plan.call (vs := [AG [(5, fun q => VU .u64 ((fun q => tp2 ((x_17.toNat * 5) + q)) q))], AG [(5, fun q => VU .u64 ((fun q => tp2 ((x_20.toNat * 5) + q)) q))]]) rfl FLaw06.call16 rfl (field_Elem_Mul_ok  hr110 h105) ?_
            rintro _ w112 ⟨rfl, h112⟩
            refine ⟨_, rfl, .inl ⟨PIn.keep (PIn.cons 8 rfl (PIn.cons 8 rfl (PIn.cons 7 rfl (PIn.cons 7 rfl PIn.nil)))) h112, ?_⟩⟩
            obtain ⟨x_114, hr113, hR⟩ := hR
            refine Plan.call (vs := [AG [(16, fun q => .int .i64 ((fun q => tr3 ((x_17.toNat * 16) + q)) q))], AG [(16, fun q => .int .i64 ((fun q => tr3 ((x_20.toNat * 16) + q)) q))]]) rfl FLaw06.call45 rfl (letheref06_Mul_ok  hr113 h112) ?_
            rintro _ w115 ⟨rfl, h115⟩
            refine ⟨_, rfl, .inl ⟨PIn.keep (PIn.cons 8 rfl (PIn.cons 8 rfl (PIn.cons 7 rfl (PIn.cons 7 rfl PIn.nil)))) h115, ?_⟩⟩
            obtain ⟨hc116, hR⟩ := hR
            refine Plan.idxArrO (j := x_23.toNat) (o' := 0 + (x_23.toNat * 5)) FLaw06.arr42 rfl rfl (congrArg (Value.int .i64) (Int.toNat_of_nonneg hc116.1).symm) (by omega) (by omega) ?_
            refine Plan.storeSub (m' := 5) (j := x_23.toNat * 5) (f' := fun q => VU .u64 (x_111 q)) h115 7 rfl rfl rfl rfl rfl (by omega) (fun _ _ => rfl) FLaw06.sz28 (EffO.wait rfl) fun w117 h117 => ?_
            simp only [List.cons_append, List.nil_append, List.set_cons_zero, List.set_cons_succ] at h117
            simp only [← spl_map (fun z => VU .u64 z)] at h117
            obtain ⟨hc118, hR⟩ := hR
            refine Plan.idxArrO (j := x_23.toNat) (o' := 20 + (x_23.toNat * 16)) FLaw06.arr45 rfl rfl (congrArg (Value.int .i64) (Int.toNat_of_nonneg hc118.1).symm) (by omega) (by omega) ?_
            refine Plan.storeSub (m' := 16) (j := x_23.toNat * 16) (f' := fun q => .int .i64 (x_114 q)) h117 8 rfl rfl rfl rfl rfl (by omega) (fun _ _ => rfl) FLaw06.sz44 (EffO.keep PIn.nil) fun w119 h119 => ?_
            simp only [List.cons_append, List.nil_append, List.set_cons_zero, List.set_cons_succ] at h119
            simp only [← spl_map (fun z => Value.int .i64 z)] at h119
            refine Plan.nil ?_
            refine blockR_norm ?_
            refine hK25 _ _ ?_; clear hK25
            refine W.seq_k fun K120 hK120 => ?_
            refine W.regionT [(0, true)] (by kernel_rfl) ?_
            refine Plan.assign_bool rfl rfl ?_
            refine Plan.nil ?_
            refine hK120 _ _ ?_; clear hK120
            refine W.ret (finR_ret ?_)
            have h121 := St.pickT (C := [_, _, _, _, _, _, _, _, _, _]) h119 [7, 8, 9] (by decide)
            simp only [pick, List.filterMap_cons, List.filterMap_nil, List.getElem?_cons_zero, List.getElem?_cons_succ, List.cons_append, List.nil_append] at h121
            subst r
            refine RetOk.mk (.tmp_bool rfl .nil) ?_
            exact ⟨rfl, h121⟩
          ·
            replace hR := ifF hR hc104
            refine W.condF (congrArg Value.bool (decide_eq_false hc104)) ?_
            refine W.seq_k fun K122 hK122 => ?_
            refine W.regionT [(0, true), (1, true)] (by kernel_rfl) ?_
            refine Plan.cmpP (a := (oKind5 : Int)) (b := (6 : Int)) (p := oKind5 = 6) rfl rfl rfl rfl icmp_eq ?_
            refine Plan.assign_bool rfl rfl ?_
            refine Plan.nil ?_
            refine hK122 _ _ ?_; clear hK122
            by_cases hc123 : oKind5 = 6
            ·
              replace hR := ifT hR hc123
              refine W.condT (congrArg Value.bool (decide_eq_true hc123)) ?_
              refine W.regionD FLaw06.mixed [(0, true), (1, true), (2, true), (3, true), (4, true), (5, true), (6, true), (7, true), (8, true), (9, true), (11, true), (12, true), (13, true), (14, true), (15, true), (16, true), (17, true), (18, true), (19, true), (20, true), (21, true), (22, true), (24, true), (25, true), (28, true), (29, true), (10, false), (23, false), (26, true), (27, false), (30, true), (31, false)] (by kernel_rfl) ?_
              have h124 := h24.drew
              refine Plan.move_ptr rfl rfl ?_
              refine Plan.move_int rfl rfl ?_
              refine Plan.move_ptr rfl rfl ?_
              refine Plan.move_int rfl rfl ?_
              refine Plan.move_ptr rfl rfl ?_
              refine Plan.move_int rfl rfl ?_
              refine Plan.nilCheck rfl rfl ?_
              refine Plan.fieldAddr0 FLaw06.fld47_0 rfl rfl ?_
              obtain ⟨hc125, hR⟩ := hR
              refine Plan.idxArrO (j := x_17.toNat) (o' := 0 + (x_17.toNat * 5)) FLaw06.arr42 rfl rfl (congrArg (Value.int .i64) (Int.toNat_of_nonneg hc125.1).symm) (by omega) (by omega) ?_
              refine Plan.loadSub (m' := 5) h124 7 (x_17.toNat * 5) rfl rfl rfl rfl (by omega) FLaw06.agg28 ?_
              refine Plan.move_ptr rfl rfl ?_
              refine Plan.move_int rfl rfl ?_
              refine Plan.nilCheck rfl rfl ?_
              refine Plan.fieldAddr 20 FLaw06.fld47_1 rfl rfl ?_
              obtain ⟨hc126, hR⟩ := hR
              refine Plan.idxArrO (j := x_17.toNat) (o' := 20 + (x_17.toNat * 16)) FLaw06.arr45 rfl rfl (congrArg (Value.int .i64) (Int.toNat_of_nonneg hc126.1).symm) (by omega) (by omega) ?_
              refine Plan.loadSub (m' := 16) h124 8 (x_17.toNat * 16) rfl rfl rfl rfl (by omega) FLaw06.agg44 ?_
              refine Plan.move_ptr rfl rfl ?_
              refine Plan.move_int rfl rfl ?_
              refine Plan.nilCheck rfl rfl ?_
              refine Plan.fieldAddr 20 FLaw06.fld47_1 rfl rfl ?_
              obtain ⟨hc127, hR⟩ := hR
              refine Plan.idxArrO (j := x_17.toNat) (o' := 20 + (x_17.toNat * 16)) FLaw06.arr45 rfl rfl (congrArg (Value.int .i64) (Int.toNat_of_nonneg hc127.1).symm) (by omega) (by omega) ?_
              refine Plan.loadSub (m' := 16) h124 8 (x_17.toNat * 16) rfl rfl rfl rfl (by omega) FLaw06.agg44 ?_
              refine Plan.nilCheck rfl rfl ?_
              refine Plan.fieldAddr0 FLaw06.fld47_0 rfl rfl ?_
              refine Plan.nilCheck rfl rfl ?_
              refine Plan.fieldAddr 20 FLaw06.fld47_1 rfl rfl ?_
              obtain ⟨x_129, hr128, hR⟩ := hR
              refine Plan.call (vs := [AG [(5, fun q => VU .u64 ((fun q => tp2 ((x_17.toNat * 5) + q)) q))]]) rfl FLaw06.call18 rfl (field_Elem_Square_ok  hr128 h124) ?_
              rintro _ w130 ⟨rfl, h130⟩
              refine ⟨_, rfl, .inl ⟨PIn.keep (PIn.cons 8 rfl (PIn.cons 8 rfl (PIn.cons 7 rfl PIn.nil))) h130, ?_⟩⟩
              obtain ⟨x_132, hr131, hR⟩ := hR
              refine Plan.call (vs := [AG [(16, fun q => .int .i64 ((fun q => tr3 ((x_17.toNat * 16) + q)) q))], AG [(16, fun q => .int .i64 ((fun q => tr3 ((x_17.toNat * 16) + q)) q))]]) rfl FLaw06.call45 rfl (letheref06_Mul_ok  hr131 h130) ?_
              rintro _ w133 ⟨rfl, h133⟩
              refine ⟨_, rfl, .inl ⟨PIn.keep (PIn.cons 8 rfl (PIn.cons 8 rfl (PIn.cons 7 rfl PIn.nil))) h133, ?_⟩⟩
              obtain ⟨hc134, hR⟩ := hR
              refine Plan.idxArrO (j := x_23.toNat) (o' := 0 + (x_23.toNat * 5)) FLaw06.arr42 rfl rfl (congrArg (Value.int .i64) (Int.toNat_of_nonneg hc134.1).symm) (by omega) (by omega) ?_
              refine Plan.storeSub (m' := 5) (j := x_23.toNat * 5) (f' := fun q => VU .u64 (x_129 q)) h133 7 rfl rfl rfl rfl rfl (by omega) (fun _ _ => rfl) FLaw06.sz28 (EffO.wait rfl) fun w135 h135 => ?_
              simp only [List.cons_append, List.nil_append, List.set_cons_zero, List.set_cons_succ] at h135
              simp only [← spl_map (fun z => VU .u64 z)] at h135
              obtain ⟨hc136, hR⟩ := hR
              refine Plan.idxArrO (j := x_23.toNat) (o' := 20 + (x_23.toNat * 16)) FLaw06.arr45 rfl rfl (congrArg (Value.int .i64) (Int.toNat_of_nonneg hc136.1).symm) (by omega) (by omega) ?_
              refine Plan.storeSub (m' := 16) (j := x_23.toNat * 16) (f' := fun q => .int .i64 (x_132 q)) h135 8 rfl rfl rfl rfl rfl (by omega) (fun _ _ => rfl) FLaw06.sz44 (EffO.keep PIn.nil) fun w137 h137 => ?_
              simp only [List.cons_append, List.nil_append, List.set_cons_zero, List.set_cons_succ] at h137
              simp only [← spl_map (fun z => Value.int .i64 z)] at h137
              refine Plan.nil ?_
              refine blockR_norm ?_
              refine hK25 _ _ ?_; clear hK25
              refine W.seq_k fun K138 hK138 => ?_
              refine W.regionT [(0, true)] (by kernel_rfl) ?_
              refine Plan.assign_bool rfl rfl ?_
              refine Plan.nil ?_
              refine hK138 _ _ ?_; clear hK138
              refine W.ret (finR_ret ?_)
              have h139 := St.pickT (C := [_, _, _, _, _, _, _, _, _, _]) h137 [7, 8, 9] (by decide)
              simp only [pick, List.filterMap_cons, List.filterMap_nil, List.getElem?_cons_zero, List.getElem?_cons_succ, List.cons_append, List.nil_append] at h139
              subst r
              refine RetOk.mk (.tmp_bool rfl .nil) ?_
              exact ⟨rfl, h139⟩
            ·
              replace hR := ifF hR hc123
              refine W.condF (congrArg Value.bool (decide_eq_false hc123)) ?_
              refine W.seq_k fun K140 hK140 => ?_
              obtain ⟨t145, hX146, hR0146⟩ := hR
              refine W.cutN (fun e w => ∃ y_t145 : Bool, (t145 = y_t145) ∧ EnvHas e [(0, .pointer (some ⟨bt1, 0, none⟩)), (3, .pointer (some ⟨b13, 0, none⟩)), (5, .int .i64 x_17), (6, .int .i64 x_20), (18, .int .i64 oKind5), (209, .bool y_t145)] ∧ St B w0 (⟨some b13, 0, 1, fun _ => .int .i64 oKind5, true⟩ :: ⟨some b13, 1, 1, fun _ => .int .i64 oA6, true⟩ :: ⟨some b13, 2, 1, fun _ => .int .i64 oB7, true⟩ :: ⟨some b13, 3, 1, fun _ => .int .i64 oC8, true⟩ :: ⟨some b13, 4, 32, fun q => VU .u8 (oK9 q), true⟩ :: ⟨some b13, 36, 1, fun _ => VU .u32 oN10, true⟩ :: ⟨some b13, 37, 1, fun _ => .int .i64 oBit11, true⟩ :: ⟨some bt1, 0, 20, fun q => VU .u64 (tp2 q), true⟩ :: ⟨some bt1, 20, 64, fun q => .int .i64 (tr3 q), true⟩ :: ⟨some bt1, 84, 1, fun _ => .int .i64 tslow4, true⟩ :: L) w) ?_ ?_
              ·
                replace hR := hX146
                refine W.seq_k fun K147 hK147 => ?_
                refine W.regionT [(0, true), (1, true)] (by kernel_rfl) ?_
                refine Plan.cmpP (a := (oKind5 : Int)) (b := (7 : Int)) (p := oKind5 = 7) rfl rfl rfl rfl icmp_eq ?_
                refine Plan.assign_bool rfl rfl ?_
                refine Plan.nil ?_
                refine hK147 _ _ ?_; clear hK147
                by_cases hc148 : oKind5 = 7
                ·
                  replace hR := ifT hR hc148
                  refine W.condT (congrArg Value.bool (decide_eq_true hc148)) ?_
                  refine W.skip ?_
                  exact ⟨(decide (oKind5 = 7)), hR, (EnvHas.cons rfl (EnvHas.cons rfl (EnvHas.cons rfl (EnvHas.cons rfl (EnvHas.cons rfl (EnvHas.cons rfl EnvHas.nil)))))), h24⟩
                ·
                  replace hR := ifF hR hc148
                  refine W.condF (congrArg Value.bool (decide_eq_false hc148)) ?_
                  refine W.seq_k fun K149 hK149 => ?_
                  refine W.regionT [(0, true), (1, true)] (by kernel_rfl) ?_
                  refine Plan.cmpP (a := (oKind5 : Int)) (b := (8 : Int)) (p := oKind5 = 8) rfl rfl rfl rfl icmp_eq ?_
                  refine Plan.assign_bool rfl rfl ?_
                  refine Plan.nil ?_
                  refine hK149 _ _ ?_; clear hK149
                  by_cases hc150 : oKind5 = 8
                  ·
                    replace hR := ifT hR hc150
                    refine W.condT (congrArg Value.bool (decide_eq_true hc150)) ?_
                    refine W.skip ?_
                    exact ⟨(decide (oKind5 = 8)), hR, (EnvHas.cons rfl (EnvHas.cons rfl (EnvHas.cons rfl (EnvHas.cons rfl (EnvHas.cons rfl (EnvHas.cons rfl EnvHas.nil)))))), h24⟩
                  ·
                    replace hR := ifF hR hc150
                    refine W.condF (congrArg Value.bool (decide_eq_false hc150)) ?_
                    refine W.regionT [(0, true), (1, true)] (by kernel_rfl) ?_
                    refine Plan.cmpP (a := (oKind5 : Int)) (b := (9 : Int)) (p := oKind5 = 9) rfl rfl rfl rfl icmp_eq ?_
                    refine Plan.assign_bool rfl rfl ?_
                    refine Plan.nil ?_
                    exact ⟨(decide (oKind5 = 9)), hR, (EnvHas.cons rfl (EnvHas.cons rfl (EnvHas.cons rfl (EnvHas.cons rfl (EnvHas.cons rfl (EnvHas.cons rfl EnvHas.nil)))))), h24⟩
              ·
                rintro ev151 wl151 ⟨y_t145, hy151_0, he151, h151⟩
                subst hy151_0
                obtain ⟨ev151, rfl⟩ := he151.open
                replace hR := hR0146
                refine hK140 _ _ ?_; clear hK140
                by_cases hc152 : t145 = true
                ·
                  replace hR := ifT hR hc152
                  refine W.condT (congrArg Value.bool hc152) ?_
                  refine W.seq_k fun K153 hK153 => ?_
                  refine W.regionT [(0, true), (1, true), (2, false), (3, true)] (by kernel_rfl) ?_
                  refine Plan.move_ptr rfl rfl ?_
                  refine Plan.loadA h151 rfl rfl (.cons 0 rfl (.cons 1 rfl (.cons 2 rfl (.cons 3 rfl (.cons 4 rfl (.cons 5 rfl (.cons 6 rfl .nil))))))) FLaw06.agg50 ?_
                  have h154 := St.pickT (C := [_, _, _, _, _, _, _, _, _, _]) h151 [7, 8, 9, 0, 1, 2, 3, 4, 5, 6] (by decide)
                  simp only [pick, List.filterMap_cons, List.filterMap_nil, List.getElem?_cons_zero, List.getElem?_cons_succ, List.cons_append, List.nil_append] at h154
                  obtain ⟨x_156, x_157, x_158, x_159, hr155, hR⟩ := hR
                  refine Plan.call (vs := [.pointer (some ⟨bt1, 0, none⟩), AG [(1, fun _ => .int .i64 oKind5), (1, fun _ => .int .i64 oA6), (1, fun _ => .int .i64 oB7), (1, fun _ => .int .i64 oC8), (32, fun q => VU .u8 (oK9 q)), (1, fun _ => VU .u32 oN10), (1, fun _ => .int .i64 oBit11)]]) rfl FLaw06.call46 rfl (lethelaw06_table_powers_ok (iG0 := iG0 + 7) hG0 hr155 h154) ?_
                  rintro _ w160 ⟨rfl, h160⟩
                  refine ⟨_, rfl, .inr ⟨rfl, ?_⟩⟩
                  refine Plan.assign_bool rfl rfl ?_
                  refine Plan.nil ?_
                  refine hK153 _ _ ?_; clear hK153
                  refine W.ret (blockR_ret (thenR_ret (finR_ret ?_)))
                  have h161 := St.pickT (C := [_, _, _, _, _, _, _, _, _, _]) h160 [0, 1, 2] (by decide)
                  simp only [pick, List.filterMap_cons, List.filterMap_nil, List.getElem?_cons_zero, List.getElem?_cons_succ, List.cons_append, List.nil_append] at h161
                  subst r
                  refine RetOk.mk (.tmp_bool rfl .nil) ?_
                  exact ⟨rfl, h161⟩
                ·
                  replace hR := ifF hR hc152
                  refine W.condF (congrArg Value.bool (Bool.eq_false_iff.2 hc152)) ?_
                  refine W.seq_k fun K162 hK162 => ?_
                  refine W.regionT [(0, true), (1, true)] (by kernel_rfl) ?_
                  refine Plan.cmpP (a := (oKind5 : Int)) (b := (10 : Int)) (p := oKind5 = 10) rfl rfl rfl rfl icmp_eq ?_
                  refine Plan.assign_bool rfl rfl ?_
                  refine Plan.nil ?_
                  refine hK162 _ _ ?_; clear hK162
                  by_cases hc163 : oKind5 = 10
                  ·
                    replace hR := ifT hR hc163
                    refine W.condT (congrArg Value.bool (decide_eq_true hc163)) ?_
                    refine W.seq_k fun K164 hK164 => ?_
                    refine W.regionD FLaw06.mixed [(0, true), (1, true), (2, true), (3, true), (4, true), (5, true), (6, true), (7, true), (8, true), (9, true), (10, true), (11, true), (12, true), (13, true), (14, true), (15, true), (16, true), (17, true), (22, true), (23, true), (26, true), (27, true), (18, false), (19, true), (20, true), (21, true), (24, true), (25, false), (28, true), (29, false)] (by kernel_rfl) ?_
                    have h165 := h151.drew
                    refine Plan.move_ptr rfl rfl ?_
                    refine Plan.move_int rfl rfl ?_
                    refine Plan.move_ptr rfl rfl ?_
                    refine Plan.move_int rfl rfl ?_
                    refine Plan.fieldAddr 37 FLaw06.fld50_6 rfl rfl ?_
                    refine Plan.load0 h165 6 rfl rfl rfl (by omega) FLaw06.sc3 ?_
                    refine Plan.move_ptr rfl rfl ?_
                    refine Plan.move_int rfl rfl ?_
                    refine Plan.nilCheck rfl rfl ?_
                    refine Plan.fieldAddr0 FLaw06.fld47_0 rfl rfl ?_
                    obtain ⟨hc166, hR⟩ := hR
                    refine Plan.idxArrO (j := x_17.toNat) (o' := 0 + (x_17.toNat * 5)) FLaw06.arr42 rfl rfl (congrArg (Value.int .i64) (Int.toNat_of_nonneg hc166.1).symm) (by omega) (by omega) ?_
                    refine Plan.loadSub (m' := 5) h165 7 (x_17.toNat * 5) rfl rfl rfl rfl (by omega) FLaw06.agg28 ?_
                    refine Plan.move_ptr rfl rfl ?_
                    refine Plan.move_int rfl rfl ?_
                    refine Plan.nilCheck rfl rfl ?_
                    refine Plan.fieldAddr0 FLaw06.fld47_0 rfl rfl ?_
                    obtain ⟨hc167, hR⟩ := hR
                    refine Plan.idxArrO (j := x_20.toNat) (o' := 0 + (x_20.toNat * 5)) FLaw06.arr42 rfl rfl (congrArg (Value.int .i64) (Int.toNat_of_nonneg hc167.1).symm) (by omega) (by omega) ?_
                    refine Plan.loadSub (m' := 5) h165 7 (x_20.toNat * 5) rfl rfl rfl rfl (by omega) FLaw06.agg28 ?_
                    refine Plan.nilCheck rfl rfl ?_
                    refine Plan.fieldAddr0 FLaw06.fld47_0 rfl rfl ?_
                    refine Plan.nilCheck rfl rfl ?_
                    refine Plan.fieldAddr0 FLaw06.fld47_0 rfl rfl ?_
                    obtain ⟨x_169, x_170, hr168, hR⟩ := hR
                    refine Plan.call (vs := [.int .i64 oBit11, AG [(5, fun q => VU .u64 ((fun q => tp2 ((x_17.toNat * 5) + q)) q))], AG [(5, fun q => VU .u64 ((fun q => tp2 ((x_20.toNat * 5) + q)) q))]]) rfl FLaw06.call47 rfl (field_Swap_ok  hr168 h165) ?_
                    rintro _ w171 ⟨rfl, h171⟩
                    refine ⟨_, rfl, .inr ⟨rfl, ?_⟩⟩
                    refine Plan.move_tuple rfl rfl ?_
                    refine Plan.extract_agg rfl rfl rfl ?_
                    refine Plan.extract_agg rfl rfl rfl ?_
                    obtain ⟨hc172, hR⟩ := hR
                    refine Plan.idxArrO (j := x_17.toNat) (o' := 0 + (x_17.toNat * 5)) FLaw06.arr42 rfl rfl (congrArg (Value.int .i64) (Int.toNat_of_nonneg hc172.1).symm) (by omega) (by omega) ?_
                    refine Plan.storeSub (m' := 5) (j := x_17.toNat * 5) (f' := fun q => VU .u64 (x_169 q)) h171 7 rfl rfl rfl rfl rfl (by omega) (fun _ _ => rfl) FLaw06.sz28 (EffO.keep PIn.nil) fun w173 h173 => ?_
                    simp only [List.cons_append, List.nil_append, List.set_cons_zero, List.set_cons_succ] at h173
                    simp only [← spl_map (fun z => VU .u64 z)] at h173
                    obtain ⟨hc174, hR⟩ := hR
                    refine Plan.idxArrO (j := x_20.toNat) (o' := 0 + (x_20.toNat * 5)) FLaw06.arr42 rfl rfl (congrArg (Value.int .i64) (Int.toNat_of_nonneg hc174.1).symm) (by omega) (by omega) ?_
                    refine Plan.storeSub (m' := 5) (j := x_20.toNat * 5) (f' := fun q => VU .u64 (x_170 q)) h173 7 rfl rfl rfl rfl rfl (by omega) (fun _ _ => rfl) FLaw06.sz28 (EffO.keep PIn.nil) fun w175 h175 => ?_
                    simp only [List.cons_append, List.nil_append, List.set_cons_zero, List.set_cons_succ] at h175
                    simp only [← spl_map (fun z => VU .u64 z)] at h175
                    refine Plan.nil ?_
                    refine hK164 _ _ ?_; clear hK164
                    refine W.seq_k fun K176 hK176 => ?_
                    refine W.regionT [(0, true), (1, true), (2, true), (3, true)] (by kernel_rfl) ?_
                    refine Plan.fieldAddr 37 FLaw06.fld50_6 rfl rfl ?_
                    refine Plan.load0 h175 6 rfl rfl rfl (by omega) FLaw06.sc3 ?_
                    refine Plan.maskI (a := oBit11) 1 (by decide) rfl rfl rfl ?_
                    refine Plan.cmpP (a := ((oBit11 % 2) : Int)) (b := (1 : Int)) (p := (oBit11 % 2) = 1) rfl rfl rfl rfl icmp_eq ?_
                    refine Plan.nil ?_
                    refine hK176 _ _ ?_; clear hK176
                    by_cases hc177 : (oBit11 % 2) = 1
                    ·
                      replace hR := ifT hR hc177
                      refine W.condT (congrArg Value.bool (decide_eq_true hc177)) ?_
                      refine W.regionD FLaw06.mixed [(0, true), (1, true), (2, true), (3, true), (4, true), (5, true), (6, true), (7, true), (8, true), (9, true), (10, true), (11, true), (12, true), (13, true), (14, true), (15, true), (16, true), (17, true), (18, true), (20, true), (21, true), (19, false), (22, true), (23, false)] (by kernel_rfl) ?_
                      have h178 := h175.drew
                      refine Plan.move_ptr rfl rfl ?_
                      refine Plan.move_int rfl rfl ?_
                      refine Plan.move_ptr rfl rfl ?_
                      refine Plan.move_int rfl rfl ?_
                      refine Plan.move_ptr rfl rfl ?_
                      refine Plan.move_int rfl rfl ?_
                      refine Plan.nilCheck rfl rfl ?_
                      refine Plan.fieldAddr 20 FLaw06.fld47_1 rfl rfl ?_
                      obtain ⟨hc179, hR⟩ := hR
                      refine Plan.idxArrO (j := x_20.toNat) (o' := 20 + (x_20.toNat * 16)) FLaw06.arr45 rfl rfl (congrArg (Value.int .i64) (Int.toNat_of_nonneg hc179.1).symm) (by omega) (by omega) ?_
                      refine Plan.loadSub (m' := 16) h178 8 (x_20.toNat * 16) rfl rfl rfl rfl (by omega) FLaw06.agg44 ?_
                      refine Plan.move_ptr rfl rfl ?_
                      refine Plan.move_int rfl rfl ?_
                      refine Plan.nilCheck rfl rfl ?_
                      refine Plan.fieldAddr 20 FLaw06.fld47_1 rfl rfl ?_
                      obtain ⟨hc180, hR⟩ := hR
                      refine Plan.idxArrO (j := x_17.toNat) (o' := 20 + (x_17.toNat * 16)) FLaw06.arr45 rfl rfl (congrArg (Value.int .i64) (Int.toNat_of_nonneg hc180.1).symm) (by omega) (by omega) ?_
                      refine Plan.loadSub (m' := 16) h178 8 (x_17.toNat * 16) rfl rfl rfl rfl (by omega) FLaw06.agg44 ?_
                      refine Plan.nilCheck rfl rfl ?_
                      refine Plan.fieldAddr 20 FLaw06.fld47_1 rfl rfl ?_
                      obtain ⟨hc181, hR⟩ := hR
                      refine Plan.idxArrO (j := x_17.toNat) (o' := 20 + (x_17.toNat * 16)) FLaw06.arr45 rfl rfl (congrArg (Value.int .i64) (Int.toNat_of_nonneg hc181.1).symm) (by omega) (by omega) ?_
                      refine Plan.nilCheck rfl rfl ?_
                      refine Plan.fieldAddr 20 FLaw06.fld47_1 rfl rfl ?_
                      refine Plan.storeSub (m' := 16) (j := x_17.toNat * 16) (f' := fun q => .int .i64 ((fun q => tr3 ((x_20.toNat * 16) + q)) q)) h178 8 rfl rfl rfl rfl rfl (by omega) (fun _ _ => rfl) FLaw06.sz44 (EffO.wait rfl) fun w182 h182 => ?_
                      simp only [List.cons_append, List.nil_append, List.set_cons_zero, List.set_cons_succ] at h182
                      simp only [← spl_map (fun z => Value.int .i64 z)] at h182
                      obtain ⟨hc183, hR⟩ := hR
                      refine Plan.idxArrO (j := x_20.toNat) (o' := 20 + (x_20.toNat * 16)) FLaw06.arr45 rfl rfl (congrArg (Value.int .i64) (Int.toNat_of_nonneg hc183.1).symm) (by omega) (by omega) ?_
                      refine Plan.storeSub (m' := 16) (j := x_20.toNat * 16) (f' := fun q => .int .i64 ((fun q => tr3 ((x_17.toNat * 16) + q)) q)) h182 8 rfl rfl rfl rfl rfl (by omega) (fun _ _ => rfl) FLaw06.sz44 (EffO.keep PIn.nil) fun w184 h184 => ?_
                      simp only [List.cons_append, List.nil_append, List.set_cons_zero, List.set_cons_succ] at h184
                      simp only [← spl_map (fun z => Value.int .i64 z)] at h184
                      refine Plan.nil ?_
                      refine blockR_norm ?_
                      refine hK25 _ _ ?_; clear hK25
                      refine W.seq_k fun K185 hK185 => ?_
                      refine W.regionT [(0, true)] (by kernel_rfl) ?_
                      refine Plan.assign_bool rfl rfl ?_
                      refine Plan.nil ?_
                      refine hK185 _ _ ?_; clear hK185
                      refine W.ret (finR_ret ?_)
                      have h186 := St.pickT (C := [_, _, _, _, _, _, _, _, _, _]) h184 [7, 8, 9] (by decide)
                      simp only [pick, List.filterMap_cons, List.filterMap_nil, List.getElem?_cons_zero, List.getElem?_cons_succ, List.cons_append, List.nil_append] at h186
                      subst r
                      refine RetOk.mk (.tmp_bool rfl .nil) ?_
                      exact ⟨rfl, h186⟩
                    ·
                      replace hR := ifF hR hc177
                      refine W.condF (congrArg Value.bool (decide_eq_false hc177)) ?_
                      refine W.skip ?_
                      refine blockR_norm ?_
                      refine hK25 _ _ ?_; clear hK25
                      refine W.seq_k fun K187 hK187 => ?_
                      refine W.regionT [(0, true)] (by kernel_rfl) ?_
                      refine Plan.assign_bool rfl rfl ?_
                      refine Plan.nil ?_
                      refine hK187 _ _ ?_; clear hK187
                      refine W.ret (finR_ret ?_)
                      have h188 := St.pickT (C := [_, _, _, _, _, _, _, _, _, _]) h175 [7, 8, 9] (by decide)
                      simp only [pick, List.filterMap_cons, List.filterMap_nil, List.getElem?_cons_zero, List.getElem?_cons_succ, List.cons_append, List.nil_append] at h188
                      subst r
                      refine RetOk.mk (.tmp_bool rfl .nil) ?_
                      exact ⟨rfl, h188⟩
                  ·
                    replace hR := ifF hR hc163
                    refine W.condF (congrArg Value.bool (decide_eq_false hc163)) ?_
                    refine W.seq_k fun K189 hK189 => ?_
                    refine W.regionT [(0, true), (1, true)] (by kernel_rfl) ?_
                    refine Plan.cmpP (a := (oKind5 : Int)) (b := (11 : Int)) (p := oKind5 = 11) rfl rfl rfl rfl icmp_eq ?_
                    refine Plan.assign_bool rfl rfl ?_
                    refine Plan.nil ?_
                    refine hK189 _ _ ?_; clear hK189
                    by_cases hc190 : oKind5 = 11
                    ·
                      replace hR := ifT hR hc190
                      refine W.condT (congrArg Value.bool (decide_eq_true hc190)) ?_
                      refine W.seq_k fun K191 hK191 => ?_
                      refine W.regionD FLaw06.mixed [(0, true), (1, true), (2, true), (3, true), (4, true), (5, true), (6, true), (7, true), (8, true), (9, true), (10, true), (11, true), (13, true), (14, true), (15, true), (16, true), (17, true), (18, true), (19, true), (20, true), (21, true), (22, true), (23, true), (24, true), (25, true), (12, false), (26, true), (27, true)] (by kernel_rfl) ?_
                      have h192 := h151.drew
                      refine Plan.move_ptr rfl rfl ?_
                      refine Plan.move_int rfl rfl ?_
                      refine Plan.nilCheck rfl rfl ?_
                      refine Plan.fieldAddr0 FLaw06.fld47_0 rfl rfl ?_
                      obtain ⟨hc193, hR⟩ := hR
                      refine Plan.idxArrO (j := x_17.toNat) (o' := 0 + (x_17.toNat * 5)) FLaw06.arr42 rfl rfl (congrArg (Value.int .i64) (Int.toNat_of_nonneg hc193.1).symm) (by omega) (by omega) ?_
                      refine Plan.loadSub (m' := 5) h192 7 (x_17.toNat * 5) rfl rfl rfl rfl (by omega) FLaw06.agg28 ?_
                      refine Plan.move_ptr rfl rfl ?_
                      refine Plan.move_int rfl rfl ?_
                      refine Plan.nilCheck rfl rfl ?_
                      refine Plan.fieldAddr0 FLaw06.fld47_0 rfl rfl ?_
                      obtain ⟨hc194, hR⟩ := hR
                      refine Plan.idxArrO (j := x_20.toNat) (o' := 0 + (x_20.toNat * 5)) FLaw06.arr42 rfl rfl (congrArg (Value.int .i64) (Int.toNat_of_nonneg hc194.1).symm) (by omega) (by omega) ?_
                      refine Plan.loadSub (m' := 5) h192 7 (x_20.toNat * 5) rfl rfl rfl rfl (by omega) FLaw06.agg28 ?_
                      refine Plan.move_ptr rfl rfl ?_
                      refine Plan.move_int rfl rfl ?_
                      refine Plan.nilCheck rfl rfl ?_
                      refine Plan.fieldAddr 20 FLaw06.fld47_1 rfl rfl ?_
                      obtain ⟨hc195, hR⟩ := hR
                      refine Plan.idxArrO (j := x_17.toNat) (o' := 20 + (x_17.toNat * 16)) FLaw06.arr45 rfl rfl (congrArg (Value.int .i64) (Int.toNat_of_nonneg hc195.1).symm) (by omega) (by omega) ?_
                      refine Plan.loadSub (m' := 16) h192 8 (x_17.toNat * 16) rfl rfl rfl rfl (by omega) FLaw06.agg44 ?_
                      refine Plan.move_ptr rfl rfl ?_
                      refine Plan.move_int rfl rfl ?_
                      refine Plan.nilCheck rfl rfl ?_
                      refine Plan.fieldAddr 20 FLaw06.fld47_1 rfl rfl ?_
                      obtain ⟨hc196, hR⟩ := hR
                      refine Plan.idxArrO (j := x_20.toNat) (o' := 20 + (x_20.toNat * 16)) FLaw06.arr45 rfl rfl (congrArg (Value.int .i64) (Int.toNat_of_nonneg hc196.1).symm) (by omega) (by omega) ?_
                      refine Plan.loadSub (m' := 16) h192 8 (x_20.toNat * 16) rfl rfl rfl rfl (by omega) FLaw06.agg44 ?_
                      refine Plan.eqArrIV (b := (eqI 16 (fun q => tr3 ((x_17.toNat * 16) + q)) (fun q => tr3 ((x_20.toNat * 16) + q)))) FLaw06.arrI44 rfl rfl rfl rfl ?_
                      obtain ⟨x_198, hr197, hR⟩ := hR
                      refine Plan.call (vs := [AG [(5, fun q => VU .u64 ((fun q => tp2 ((x_17.toNat * 5) + q)) q))], AG [(5, fun q => VU .u64 ((fun q => tp2 ((x_20.toNat * 5) + q)) q))]]) rfl FLaw06.call15 rfl (field_Elem_Equal_ok  hr197 h192) ?_
                      rintro _ w199 ⟨rfl, h199⟩
                      refine ⟨_, rfl, .inl ⟨PIn.keep (PIn.cons 8 rfl (PIn.cons 8 rfl (PIn.cons 7 rfl (PIn.cons 7 rfl PIn.nil)))) h199, ?_⟩⟩
                      refine Plan.eqBoolV (v := (x_198 == (eqI 16 (fun q => tr3 ((x_17.toNat * 16) + q)) (fun q => tr3 ((x_20.toNat * 16) + q))))) FLaw06.bool4 rfl rfl rfl rfl ?_
                      refine Plan.assign_bool rfl rfl ?_
                      refine Plan.nil ?_
                      refine hK191 _ _ ?_; clear hK191
                      refine W.ret (blockR_ret (thenR_ret (finR_ret ?_)))
                      have h200 := St.pickT (C := [_, _, _, _, _, _, _, _, _, _]) h199 [7, 8, 9] (by decide)
                      simp only [pick, List.filterMap_cons, List.filterMap_nil, List.getElem?_cons_zero, List.getElem?_cons_succ, List.cons_append, List.nil_append] at h200
                      subst r
                      refine RetOk.mk (.tmp_bool rfl .nil) ?_
                      exact ⟨rfl, h200⟩
                    ·
                      replace hR := ifF hR hc190
                      refine W.condF (congrArg Value.bool (decide_eq_false hc190)) ?_
                      refine W.skip ?_
                      refine blockR_norm ?_
                      refine hK25 _ _ ?_; clear hK25
                      refine W.seq_k fun K201 hK201 => ?_
                      refine W.regionT [(0, true)] (by kernel_rfl) ?_
                      refine Plan.assign_bool rfl rfl ?_
                      refine Plan.nil ?_
                      refine hK201 _ _ ?_; clear hK201
                      refine W.ret (finR_ret ?_)
                      have h202 := St.pickT (C := [_, _, _, _, _, _, _, _, _, _]) h151 [7, 8, 9] (by decide)
                      simp only [pick, List.filterMap_cons, List.filterMap_nil, List.getElem?_cons_zero, List.getElem?_cons_succ, List.cons_append, List.nil_append] at h202
                      subst r
                      refine RetOk.mk (.tmp_bool rfl .nil) ?_
                      exact ⟨rfl, h202⟩


set_option maxRecDepth 8000 in
set_option maxHeartbeats 1000000 in
theorem lethelaw06_table_same_ok {B : Nat} {w0 w : World} {L : List Rg} {bt1 : Nat} {tp2 : Nat → BitVec 64} {tr3 : Nat → Int} {tslow4 : Int} {r : Bool} (hR : lethelaw06_table_same tp2 tr3 tslow4 r) (HST : St B w0 (⟨some bt1, 0, 20, fun q => VU .u64 (tp2 q), true⟩ :: ⟨some bt1, 20, 64, fun q => .int .i64 (tr3 q), true⟩ :: ⟨some bt1, 84, 1, fun _ => .int .i64 tslow4, true⟩ :: L) w) :
    Calls Tryd.prog 22 #[.pointer (some ⟨bt1, 0, none⟩)] w fun e w' => e = .returned (.bool r) ∧ St B w0 (⟨some bt1, 0, 20, fun q => VU .u64 (tp2 q), true⟩ :: ⟨some bt1, 20, 64, fun q => .int .i64 (tr3 q), true⟩ :: ⟨some bt1, 84, 1, fun _ => .int .i64 tslow4, true⟩ :: L) w' := by
  refine W.enter 23 Tryd.func22 rfl rfl rfl ?_
  unfold lethelaw06_table_same at hR
  refine W.seq_k fun K5 hK5 => ?_
  refine W.regionT [(0, true)] (by kernel_rfl) ?_
  refine Plan.assign_bool rfl rfl ?_
  refine Plan.nil ?_
  refine hK5 _ _ ?_; clear hK5
  refine W.seq_k fun K6 hK6 => ?_
  refine W.seq_k fun K7 hK7 => ?_
  refine W.regionT [(0, true)] (by kernel_rfl) ?_
  refine Plan.assign_int rfl rfl ?_
  refine Plan.nil ?_
  refine hK7 _ _ ?_; clear hK7
  obtain ⟨x38, hI38, hR038⟩ := hR
  refine W.cutN (fun e w => x38 = some () ∧ EnvHas e [] ∧ St B w0 (⟨some bt1, 0, 20, fun q => VU .u64 (tp2 q), true⟩ :: ⟨some bt1, 20, 64, fun q => .int .i64 (tr3 q), true⟩ :: ⟨some bt1, 84, 1, fun _ => .int .i64 tslow4, true⟩ :: L) w) ?_ ?_
  ·
    refine W.block ?_
    refine W.iter hI38 (fun (s38 : Nat) e w => EnvHas e [(0, .pointer (some ⟨bt1, 0, none⟩)), (3, VN s38)] ∧ St B w0 (⟨some bt1, 0, 20, fun q => VU .u64 (tp2 q), true⟩ :: ⟨some bt1, 20, 64, fun q => .int .i64 (tr3 q), true⟩ :: ⟨some bt1, 84, 1, fun _ => .int .i64 tslow4, true⟩ :: L) w) ⟨(EnvHas.cons rfl (EnvHas.cons rfl EnvHas.nil)), HST⟩ ?_
    rintro i_37 o38 hR hx38 ev39 wl39 ⟨he39, h39⟩
    obtain ⟨ev39, rfl⟩ := he39.open
    unfold lethelaw06_table_same_l0 at hR
    refine W.seq_k fun K40 hK40 => ?_
    refine W.seq_k fun K41 hK41 => ?_
    refine W.regionT [(0, true), (1, true)] (by kernel_rfl) ?_
    refine Plan.move_int rfl rfl ?_
    refine Plan.cmpP (a := (((i_37 : Nat) : Int) : Int)) (b := (4 : Int)) (p := i_37 < 4) rfl rfl rfl rfl icmp_ltN ?_
    refine Plan.nil ?_
    refine hK41 _ _ ?_; clear hK41
    by_cases hc42 : i_37 < 4
    ·
      replace hR := ifT hR hc42
      refine W.condT (congrArg Value.bool (decide_eq_true hc42)) ?_
      refine W.skip ?_
      refine hK40 _ _ ?_; clear hK40
      refine W.seq_k fun K43 hK43 => ?_
      refine W.block ?_
      refine W.seq_k fun K44 hK44 => ?_
      refine W.regionD FLaw06.mixed [(0, true), (1, true), (2, true), (3, true), (4, true), (5, true), (7, true), (8, true), (9, true), (10, true), (11, true), (12, true), (6, false), (13, false), (14, true)] (by kernel_rfl) ?_
      have h45 := h39.drew
      refine Plan.move_ptr rfl rfl ?_
      refine Plan.move_int rfl rfl ?_
      refine Plan.nilCheck rfl rfl ?_
      refine Plan.fieldAddr0 FLaw06.fld47_0 rfl rfl ?_
      refine Plan.idxArrO (j := i_37) (o' := 0 + (i_37 * 5)) FLaw06.arr42 rfl rfl rfl (by omega) (by omega) ?_
      refine Plan.loadSub (m' := 5) h45 0 (i_37 * 5) rfl rfl rfl rfl (by omega) FLaw06.agg28 ?_
      refine Plan.move_ptr rfl rfl ?_
      refine Plan.move_int rfl rfl ?_
      refine Plan.nilCheck rfl rfl ?_
      refine Plan.fieldAddr 20 FLaw06.fld47_1 rfl rfl ?_
      refine Plan.idxArrO (j := i_37) (o' := 20 + (i_37 * 16)) FLaw06.arr45 rfl rfl rfl (by omega) (by omega) ?_
      refine Plan.loadSub (m' := 16) h45 1 (i_37 * 16) rfl rfl rfl rfl (by omega) FLaw06.agg44 ?_
      obtain ⟨x_47, hr46, hR⟩ := hR
      refine Plan.call (vs := [AG [(5, fun q => VU .u64 ((fun q => tp2 ((i_37 * 5) + q)) q))]]) rfl FLaw06.call19 rfl (field_Elem_Bytes_ok  hr46 h45) ?_
      rintro _ w48 ⟨rfl, h48⟩
      refine ⟨_, rfl, .inl ⟨PIn.keep (PIn.cons 1 rfl (PIn.cons 0 rfl PIn.nil)) h48, ?_⟩⟩
      obtain ⟨x_50, hr49, hR⟩ := hR
      refine Plan.call (vs := [AG [(16, fun q => .int .i64 ((fun q => tr3 ((i_37 * 16) + q)) q))]]) rfl FLaw06.call48 rfl (letheref06_Bytes_ok  hr49 h48) ?_
      rintro _ w51 ⟨rfl, h51⟩
      refine ⟨_, rfl, .inl ⟨PIn.keep (PIn.cons 1 rfl (PIn.cons 0 rfl PIn.nil)) h51, ?_⟩⟩
      refine Plan.neArrV (b := (eqB 32 x_47 x_50)) FLaw06.arrI23 rfl rfl rfl rfl ?_
      refine Plan.nil ?_
      refine hK44 _ _ ?_; clear hK44
      by_cases hc52 : (eqB 32 x_47 x_50) = true
      ·
        replace hR := ifT hR hc52
        refine W.condF (congrArg Value.bool (congrArg Bool.not hc52)) ?_
        refine W.skip ?_
        refine blockR_norm ?_
        refine hK43 _ _ ?_; clear hK43
        refine W.regionT [(0, true), (1, true), (2, true)] (by kernel_rfl) ?_
        refine Plan.move_int rfl rfl ?_
        refine Plan.addN (a := i_37) (b := 1) rfl rfl rfl (by omega) ?_
        refine Plan.assign_int rfl rfl ?_
        refine Plan.nil ?_
        exact iterR_norm ⟨_, hR, (EnvHas.cons rfl (EnvHas.cons rfl EnvHas.nil)), h51⟩
      ·
        replace hR := ifF hR hc52
        refine W.condT (congrArg Value.bool (congrArg Bool.not (Bool.eq_false_iff.2 hc52))) ?_
        refine W.seq_k fun K53 hK53 => ?_
        refine W.regionT [(0, true)] (by kernel_rfl) ?_
        refine Plan.assign_bool rfl rfl ?_
        refine Plan.nil ?_
        refine hK53 _ _ ?_; clear hK53
        refine W.ret (blockR_ret (thenR_ret (iterR_ret (blockR_ret (thenR_ret (thenR_ret (finR_ret ?_)))))))
        replace hR := hR.2
        subst r
        refine RetOk.mk (.tmp_bool rfl .nil) ?_
        exact ⟨rfl, h51⟩
    ·
      replace hR := ifF hR hc42
      refine W.condF (congrArg Value.bool (decide_eq_false hc42)) ?_
      refine W.exit (thenR_exit (iterR_exit (blockR_here ?_)))
      exact ⟨(hx38 _ hR).symm, EnvHas.nil, h39⟩
  ·
    rintro ev54 wl54 ⟨hy54, he54, h54⟩
    obtain ⟨ev54, rfl⟩ := he54.open
    replace hR := hR038  hy54
    refine hK6 _ _ ?_; clear hK6
    refine W.seq_k fun K55 hK55 => ?_
    refine W.regionT [(0, true)] (by kernel_rfl) ?_
    refine Plan.assign_bool rfl rfl ?_
    refine Plan.nil ?_
    refine hK55 _ _ ?_; clear hK55
    refine W.ret (finR_ret ?_)
    subst r
    refine RetOk.mk (.tmp_bool rfl .nil) ?_
    exact ⟨rfl, h54⟩

end Go.Proofs.YtjblfkmmbpcpaaaDoor
