/-
  WALKS of the package's functions, printed by this session's own program (auto.py).
-/
import Derived.Test.YtjblfkmmbpcpaaaDoorProg
import Derived.Test.YtjblfkmmbpcpaaaDoorEb
import Derived.Test.YtjblfkmmbpcpaaaDoorRField
import Derived.Test.YtjblfkmmbpcpaaaDoorEls
import Derived.Test.YtjblfkmmbpcpaaaDoorWBits
namespace Go.Proofs.YtjblfkmmbpcpaaaDoor
set_option linter.unusedSimpArgs false
set_option linter.unusedVariables false
set_option linter.unusedSectionVars false
open Go Go.LW
theorem FField.agg23 : aggT Tryd.prog 23 32 = true := by kernel_rfl
theorem FField.z28 : zeroIs Tryd.prog 28 [(5, fun _ => VU .u64 0#64)] := zeroIs_agg (by kernel_rfl)
theorem FField.mixed : Tryd.prog.follows .mixedOrders = true := by kernel_rfl
theorem FField.arr23 : arrB Tryd.prog 23 32 1 = true := by kernel_rfl
theorem FField.sc5 : scalarT Tryd.prog 5 = true := by kernel_rfl
theorem FField.u24 : Tryd.prog.underlying 24 = some (.int .u64) := by kernel_rfl
theorem FField.some5 : (Tryd.prog.underlying 5).isSome = true := by kernel_rfl
theorem FField.call32 : callB Tryd.prog 32 = true := by kernel_rfl
theorem FField.arr26 : arrB Tryd.prog 26 5 1 = true := by kernel_rfl
theorem FField.z26 : zeroIs Tryd.prog 26 [(5, fun _ => VU .u64 0#64)] := zeroIs_agg (by kernel_rfl)
theorem FField.pl28 : placesB Tryd.prog 28 [(0, 5)] = true := by kernel_rfl
theorem FField.sz28 : szT Tryd.prog 28 5 = true := by kernel_rfl
theorem FField.agg28 : aggT Tryd.prog 28 5 = true := by kernel_rfl
theorem FField.call12 : callB Tryd.prog 12 = true := by kernel_rfl
theorem FField.z80 : zeroIs Tryd.prog 80 [(10, fun _ => VU .u64 0#64)] := zeroIs_agg (by kernel_rfl)
theorem FField.fld28_0 : fieldB Tryd.prog 28 0 0 = true := by kernel_rfl
theorem FField.sc24 : scalarT Tryd.prog 24 = true := by kernel_rfl
theorem FField.arr80 : arrB Tryd.prog 80 5 2 = true := by kernel_rfl
theorem FField.agg79 : aggT Tryd.prog 79 2 = true := by kernel_rfl
theorem FField.z79 : zeroIs Tryd.prog 79 [(1, fun _ => VU .u64 0#64), (1, fun _ => VU .u64 0#64)] := zeroIs_agg (by kernel_rfl)
theorem FField.call58 : callB Tryd.prog 58 = true := by kernel_rfl
theorem FField.fld79_1 : fieldB Tryd.prog 79 1 1 = true := by kernel_rfl
theorem FField.sz24 : szT Tryd.prog 24 1 = true := by kernel_rfl
theorem FField.fld79_0 : fieldB Tryd.prog 79 0 0 = true := by kernel_rfl
theorem FField.sz79 : szT Tryd.prog 79 2 = true := by kernel_rfl
theorem FField.call34 : callB Tryd.prog 34 = true := by kernel_rfl
theorem FField.agg80 : aggT Tryd.prog 80 10 = true := by kernel_rfl
theorem FField.isarr80 : Tryd.prog.underlying 80 = some (.array 5 79) := by kernel_rfl
theorem FField.agg26 : aggT Tryd.prog 26 5 = true := by kernel_rfl
theorem FField.sz26 : szT Tryd.prog 26 5 = true := by kernel_rfl
theorem FField.call33 : callB Tryd.prog 33 = true := by kernel_rfl
theorem FField.call16 : callB Tryd.prog 16 = true := by kernel_rfl
theorem FField.call18 : callB Tryd.prog 18 = true := by kernel_rfl
theorem FField.z23 : zeroIs Tryd.prog 23 [(32, fun _ => VU .u8 0#8)] := zeroIs_agg (by kernel_rfl)
theorem FField.sz5 : szT Tryd.prog 5 1 = true := by kernel_rfl
theorem FField.sz23 : szT Tryd.prog 23 32 = true := by kernel_rfl
theorem FField.call37 : callB Tryd.prog 37 = true := by kernel_rfl
theorem FField.some31 : (Tryd.prog.underlying 31).isSome = true := by kernel_rfl
theorem FField.call13 : callB Tryd.prog 13 = true := by kernel_rfl
theorem FField.call36 : callB Tryd.prog 36 = true := by kernel_rfl
theorem FField.u5 : Tryd.prog.underlying 5 = some (.int .u8) := by kernel_rfl
theorem FField.some24 : (Tryd.prog.underlying 24).isSome = true := by kernel_rfl
theorem FField.call19 : callB Tryd.prog 19 = true := by kernel_rfl
theorem FField.arrI23 : arrIB Tryd.prog 23 32 .u8 = true := by kernel_rfl
theorem FField.call15 : callB Tryd.prog 15 = true := by kernel_rfl
theorem FField.isarr23 : Tryd.prog.underlying 23 = some (.array 32 5) := by kernel_rfl
theorem FField.row28 : rowB Tryd.prog 28 = true := by kernel_rfl
theorem FField.call17 : callB Tryd.prog 17 = true := by kernel_rfl

set_option maxRecDepth 8000 in
set_option maxHeartbeats 1000000 in
theorem field_word_ok {B : Nat} {w0 w : World} {L : List Rg} {b1 : Nat → BitVec 8} {i_2 : Int} {r : (BitVec 64)} (hR : field_word b1 i_2 r) (HST : St B w0 (L) w) :
    Calls Tryd.prog 32 #[AG [(32, fun q => VU .u8 (b1 q))], .int .i64 i_2] w fun e w' => e = .returned (VU .u64 r) ∧ St B w0 (L) w' := by
  refine W.enter 21 Tryd.func32 rfl rfl rfl ?_
  unfold field_word at hR
  refine W.seq_k fun K3 hK3 => ?_
  refine W.regionT [(0, false), (1, true)] (by kernel_rfl) ?_
  refine Plan.boxA HST rfl rfl PIn.nil fun b4 w4 hb4 h4 => ?_
  simp only [rngs, Nat.zero_add, Nat.reduceAdd, List.cons_append, List.nil_append] at h4
  refine Plan.assign_int rfl rfl ?_
  refine Plan.nil ?_
  refine hK3 _ _ ?_; clear hK3
  refine W.seq_k fun K5 hK5 => ?_
  refine W.regionT [(0, true)] (by kernel_rfl) ?_
  refine Plan.assign_int rfl rfl ?_
  refine Plan.nil ?_
  refine hK5 _ _ ?_; clear hK5
  refine W.seq_k fun K6 hK6 => ?_
  refine W.seq_k fun K7 hK7 => ?_
  refine W.regionT [(0, true)] (by kernel_rfl) ?_
  refine Plan.assign_int rfl rfl ?_
  refine Plan.nil ?_
  refine hK7 _ _ ?_; clear hK7
  obtain ⟨x_34, hI35, hR035⟩ := hR
  refine W.cutN (fun e w => ∃ y_x_34 : BitVec 64, x_34 = y_x_34 ∧ EnvHas e [(5, VU .u64 y_x_34)] ∧ St B w0 (L) w) ?_ ?_
  ·
    refine W.block ?_
    refine W.iter hI35 (fun (s35 : ((BitVec 64) × Int)) e w => EnvHas e [(1, .int .i64 i_2), (2, .pointer (some ⟨b4, 0, none⟩)), (5, VU .u64 s35.1), (6, .int .i64 s35.2)] ∧ St B w0 (⟨some b4, 0, 32, fun q => VU .u8 (b1 q), true⟩ :: L) w) ⟨(EnvHas.cons rfl (EnvHas.cons rfl (EnvHas.cons rfl (EnvHas.cons rfl EnvHas.nil)))), h4⟩ ?_
    rintro ⟨x_32, k33⟩ o35 hR hx35 ev36 wl36 ⟨he36, h36⟩
    obtain ⟨ev36, rfl⟩ := he36.open
    unfold field_word_l0 at hR
    refine W.seq_k fun K37 hK37 => ?_
    refine W.seq_k fun K38 hK38 => ?_
    refine W.regionT [(0, true), (1, true)] (by kernel_rfl) ?_
    refine Plan.move_int rfl rfl ?_
    refine Plan.cmpP (a := (k33 : Int)) (b := (0 : Int)) (p := 0 ≤ k33) rfl rfl rfl rfl icmp_ge ?_
    refine Plan.nil ?_
    refine hK38 _ _ ?_; clear hK38
    by_cases hc39 : 0 ≤ k33
    ·
      replace hR := ifT hR hc39
      refine W.condT (congrArg Value.bool (decide_eq_true hc39)) ?_
      refine W.skip ?_
      refine hK37 _ _ ?_; clear hK37
      refine W.seq_k fun K40 hK40 => ?_
      refine W.block ?_
      refine W.regionT [(0, true), (1, true), (2, true), (3, true), (4, true), (5, true), (6, true), (7, true), (8, true), (9, true)] (by kernel_rfl) ?_
      refine Plan.move_int rfl rfl ?_
      refine Plan.shlU .u64 (X := x_32) (c := 8) rfl rfl rfl ?_
      refine Plan.move_int rfl rfl ?_
      refine Plan.move_int rfl rfl ?_
      obtain ⟨hc41, hR⟩ := hR
      refine Plan.addI (a := i_2) (b := k33) rfl rfl rfl (by omega) ?_
      obtain ⟨hc42, hR⟩ := hR
      refine Plan.idxArr1 (j := (i_2 + k33).toNat) FField.arr23 rfl rfl (congrArg (Value.int .i64) (Int.toNat_of_nonneg hc42.1).symm) (by omega) ?_
      refine Plan.load1 (j := (i_2 + k33).toNat) h36 0 rfl rfl rfl (by omega) FField.sc5 ?_
      refine Plan.convUU .u64 (X := (b1 ((i_2 + k33).toNat))) FField.u24 FField.some5 rfl rfl ?_
      refine Plan.orU .u64 (X := (x_32 <<< 8)) (Y := ((b1 ((i_2 + k33).toNat)).setWidth 64)) rfl rfl rfl ?_
      refine Plan.assign_int rfl rfl ?_
      refine Plan.nil ?_
      refine blockR_norm ?_
      refine hK40 _ _ ?_; clear hK40
      refine W.regionT [(0, true), (1, true), (2, true)] (by kernel_rfl) ?_
      refine Plan.move_int rfl rfl ?_
      obtain ⟨hc43, hR⟩ := hR
      refine Plan.subI (a := k33) (b := 1) rfl rfl rfl (by omega) ?_
      refine Plan.assign_int rfl rfl ?_
      refine Plan.nil ?_
      exact iterR_norm ⟨_, hR, (EnvHas.cons rfl (EnvHas.cons rfl (EnvHas.cons rfl (EnvHas.cons rfl EnvHas.nil)))), h36⟩
    ·
      replace hR := ifF hR hc39
      refine W.condF (congrArg Value.bool (decide_eq_false hc39)) ?_
      refine W.exit (thenR_exit (iterR_exit (blockR_here ?_)))
      have h44 := St.pickT (C := [_]) h36 [] (by decide)
      simp only [pick, List.filterMap_cons, List.filterMap_nil, List.getElem?_cons_zero, List.getElem?_cons_succ, List.cons_append, List.nil_append] at h44
      exact ⟨x_32, (hx35 _ hR).symm, (EnvHas.cons rfl EnvHas.nil), h44⟩
  ·
    rintro ev45 wl45 ⟨y_x_34, hy45, he45, h45⟩
    obtain ⟨ev45, rfl⟩ := he45.open
    subst hy45
    replace hR := hR035
    refine hK6 _ _ ?_; clear hK6
    refine W.seq_k fun K46 hK46 => ?_
    refine W.regionT [(0, true), (1, true)] (by kernel_rfl) ?_
    refine Plan.move_int rfl rfl ?_
    refine Plan.assign_int rfl rfl ?_
    refine Plan.nil ?_
    refine hK46 _ _ ?_; clear hK46
    refine W.ret (finR_ret ?_)
    subst r
    refine RetOk.mk (.tmp_int rfl .nil) ?_
    exact ⟨rfl, h45⟩


set_option maxRecDepth 8000 in
set_option maxHeartbeats 1000000 in
theorem field_Read_ok {B : Nat} {w0 w : World} {L : List Rg} {b1 : Nat → BitVec 8} {r : (Nat → BitVec 64)} (hR : field_Read b1 r) (HST : St B w0 (L) w) :
    Calls Tryd.prog 12 #[AG [(32, fun q => VU .u8 (b1 q))]] w fun e w' => e = .returned (AG [(5, fun q => VU .u64 (r q))]) ∧ St B w0 (L) w' := by
  refine W.enter 24 Tryd.func12 rfl rfl rfl ?_
  unfold field_Read at hR
  refine W.seq_k fun K2 hK2 => ?_
  refine W.regionT [(0, false), (1, false)] (by kernel_rfl) ?_
  refine Plan.boxA HST rfl rfl PIn.nil fun b3 w3 hb3 h3 => ?_
  simp only [rngs, Nat.zero_add, Nat.reduceAdd, List.cons_append, List.nil_append] at h3
  refine Plan.alloc h3 rfl FField.z28 PIn.nil fun b4 w4 hb4 h4 => ?_
  simp only [rngs, Nat.zero_add, Nat.reduceAdd, List.cons_append, List.nil_append] at h4
  refine Plan.nil ?_
  refine hK2 _ _ ?_; clear hK2
  refine W.seq_k fun K5 hK5 => ?_
  refine W.regionD FField.mixed [(0, true), (3, true), (7, true), (11, true), (15, true), (1, false), (2, true), (4, false), (5, true), (6, true), (8, false), (9, true), (10, true), (12, false), (13, true), (14, true), (16, false), (17, true), (18, true), (19, true), (20, true), (21, false)] (by kernel_rfl) ?_
  have h6 := h4.drew
  refine Plan.loadA1 h6 1 rfl rfl rfl FField.agg23 ?_
  refine Plan.loadA1 h6 1 rfl rfl rfl FField.agg23 ?_
  refine Plan.loadA1 h6 1 rfl rfl rfl FField.agg23 ?_
  refine Plan.loadA1 h6 1 rfl rfl rfl FField.agg23 ?_
  refine Plan.loadA1 h6 1 rfl rfl rfl FField.agg23 ?_
  obtain ⟨x_8, hr7, hR⟩ := hR
  refine Plan.call (vs := [AG [(32, fun q => VU .u8 (b1 q))], VN 0]) rfl FField.call32 rfl (field_word_ok  hr7 h6) ?_
  rintro _ w9 ⟨rfl, h9⟩
  refine ⟨_, rfl, .inl ⟨PIn.keep (PIn.cons 1 rfl (PIn.cons 1 rfl (PIn.cons 1 rfl (PIn.cons 1 rfl (PIn.cons 1 rfl PIn.nil))))) h9, ?_⟩⟩
  refine Plan.andU .u64 (X := x_8) (Y := 2251799813685247#64) rfl rfl rfl ?_
  obtain ⟨x_11, hr10, hR⟩ := hR
  refine Plan.call (vs := [AG [(32, fun q => VU .u8 (b1 q))], VN 6]) rfl FField.call32 rfl (field_word_ok  hr10 h9) ?_
  rintro _ w12 ⟨rfl, h12⟩
  refine ⟨_, rfl, .inl ⟨PIn.keep (PIn.cons 1 rfl (PIn.cons 1 rfl (PIn.cons 1 rfl (PIn.cons 1 rfl (PIn.cons 1 rfl PIn.nil))))) h12, ?_⟩⟩
  refine Plan.shrU .u64 (X := x_11) (c := 3) rfl rfl rfl ?_
  refine Plan.andU .u64 (X := (x_11 >>> 3)) (Y := 2251799813685247#64) rfl rfl rfl ?_
  obtain ⟨x_14, hr13, hR⟩ := hR
  refine Plan.call (vs := [AG [(32, fun q => VU .u8 (b1 q))], VN 12]) rfl FField.call32 rfl (field_word_ok  hr13 h12) ?_
  rintro _ w15 ⟨rfl, h15⟩
  refine ⟨_, rfl, .inl ⟨PIn.keep (PIn.cons 1 rfl (PIn.cons 1 rfl (PIn.cons 1 rfl (PIn.cons 1 rfl (PIn.cons 1 rfl PIn.nil))))) h15, ?_⟩⟩
  refine Plan.shrU .u64 (X := x_14) (c := 6) rfl rfl rfl ?_
  refine Plan.andU .u64 (X := (x_14 >>> 6)) (Y := 2251799813685247#64) rfl rfl rfl ?_
  obtain ⟨x_17, hr16, hR⟩ := hR
  refine Plan.call (vs := [AG [(32, fun q => VU .u8 (b1 q))], VN 19]) rfl FField.call32 rfl (field_word_ok  hr16 h15) ?_
  rintro _ w18 ⟨rfl, h18⟩
  refine ⟨_, rfl, .inl ⟨PIn.keep (PIn.cons 1 rfl (PIn.cons 1 rfl (PIn.cons 1 rfl (PIn.cons 1 rfl (PIn.cons 1 rfl PIn.nil))))) h18, ?_⟩⟩
  refine Plan.shrU .u64 (X := x_17) (c := 1) rfl rfl rfl ?_
  refine Plan.andU .u64 (X := (x_17 >>> 1)) (Y := 2251799813685247#64) rfl rfl rfl ?_
  obtain ⟨x_20, hr19, hR⟩ := hR
  refine Plan.call (vs := [AG [(32, fun q => VU .u8 (b1 q))], VN 24]) rfl FField.call32 rfl (field_word_ok  hr19 h18) ?_
  rintro _ w21 ⟨rfl, h21⟩
  refine ⟨_, rfl, .inl ⟨PIn.keep (PIn.cons 1 rfl (PIn.cons 1 rfl (PIn.cons 1 rfl (PIn.cons 1 rfl (PIn.cons 1 rfl PIn.nil))))) h21, ?_⟩⟩
  refine Plan.shrU .u64 (X := x_20) (c := 12) rfl rfl rfl ?_
  refine Plan.andU .u64 (X := (x_20 >>> 12)) (Y := 2251799813685247#64) rfl rfl rfl ?_
  refine Plan.buildArr (ps := [(5, fun q => VU .u64 ((lit [(x_8 &&& (2251799813685247#64)), ((x_11 >>> 3) &&& (2251799813685247#64)), ((x_14 >>> 6) &&& (2251799813685247#64)), ((x_17 >>> 1) &&& (2251799813685247#64)), ((x_20 >>> 12) &&& (2251799813685247#64))]) q))]) FField.arr26 FField.z26 rfl rfl rfl ?_
  refine Plan.buildP (ps := [(5, fun q => VU .u64 ((lit [(x_8 &&& (2251799813685247#64)), ((x_11 >>> 3) &&& (2251799813685247#64)), ((x_14 >>> 6) &&& (2251799813685247#64)), ((x_17 >>> 1) &&& (2251799813685247#64)), ((x_20 >>> 12) &&& (2251799813685247#64))]) q))]) FField.pl28 (by decide) FField.z28 rfl rfl (.agg [] [(5, fun q => VU .u64 ((fun _ => 0#64) q))] [] [(5, fun q => VU .u64 ((lit [(x_8 &&& (2251799813685247#64)), ((x_11 >>> 3) &&& (2251799813685247#64)), ((x_14 >>> 6) &&& (2251799813685247#64)), ((x_17 >>> 1) &&& (2251799813685247#64)), ((x_20 >>> 12) &&& (2251799813685247#64))]) q))] rfl rfl .nil) ?_
  refine Plan.storeA (f' := fun q => VU .u64 ((lit [(x_8 &&& (2251799813685247#64)), ((x_11 >>> 3) &&& (2251799813685247#64)), ((x_14 >>> 6) &&& (2251799813685247#64)), ((x_17 >>> 1) &&& (2251799813685247#64)), ((x_20 >>> 12) &&& (2251799813685247#64))]) q)) h21 0 rfl rfl rfl rfl (fun _ _ => rfl) FField.sz28 rfl fun w22 h22 => ?_
  simp only [List.cons_append, List.nil_append, List.set_cons_zero, List.set_cons_succ] at h22
  refine Plan.nil ?_
  refine hK5 _ _ ?_; clear hK5
  refine W.ret (finR_ret ?_)
  have h23 := St.pickT (C := [_, _]) h22 [] (by decide)
  simp only [pick, List.filterMap_cons, List.filterMap_nil, List.getElem?_cons_zero, List.getElem?_cons_succ, List.cons_append, List.nil_append] at h23
  subst r
  refine RetOk.mk (.agg h22 rfl (.cons 0 rfl .nil) FField.agg28 .nil) ?_
  exact ⟨rfl, h23⟩


set_option maxRecDepth 8000 in
set_option maxHeartbeats 1000000 in
theorem field_long_plus_ok {B : Nat} {w0 w : World} {L : List Rg} {xhi1 : BitVec 64} {xlo2 : BitVec 64} {a3 : BitVec 64} {b4 : BitVec 64} {r : ((BitVec 64) × (BitVec 64))} (hR : field_long_plus xhi1 xlo2 a3 b4 r) (HST : St B w0 (L) w) :
    Calls Tryd.prog 34 #[AG [(1, fun _ => VU .u64 xhi1), (1, fun _ => VU .u64 xlo2)], VU .u64 a3, VU .u64 b4] w fun e w' => e = .returned (AG [(1, fun _ => VU .u64 r.1), (1, fun _ => VU .u64 r.2)]) ∧ St B w0 (L) w' := by
  refine W.enter 34 Tryd.func34 rfl rfl rfl ?_
  unfold field_long_plus at hR
  refine W.seq_k fun K5 hK5 => ?_
  refine W.regionT [(0, false), (1, false)] (by kernel_rfl) ?_
  refine Plan.boxA HST rfl rfl PIn.nil fun b6 w6 hb6 h6 => ?_
  simp only [rngs, Nat.zero_add, Nat.reduceAdd, List.cons_append, List.nil_append] at h6
  refine Plan.alloc h6 rfl FField.z79 PIn.nil fun b7 w7 hb7 h7 => ?_
  simp only [rngs, Nat.zero_add, Nat.reduceAdd, List.cons_append, List.nil_append] at h7
  refine Plan.nil ?_
  refine hK5 _ _ ?_; clear hK5
  refine W.seq_k fun K8 hK8 => ?_
  refine W.regionT [(0, true), (1, true), (2, false), (3, true), (4, true), (5, true), (6, true), (7, true)] (by kernel_rfl) ?_
  refine Plan.move_int rfl rfl ?_
  refine Plan.move_int rfl rfl ?_
  obtain ⟨x_10, x_11, hr9, hR⟩ := hR
  refine Plan.call (vs := [VU .u64 a3, VU .u64 b4]) rfl FField.call58 rfl (bits_Mul64_ok  hr9 h7) ?_
  rintro _ w12 ⟨rfl, h12⟩
  refine ⟨_, rfl, .inl ⟨PIn.keep PIn.nil h12, ?_⟩⟩
  refine Plan.move_tuple rfl rfl ?_
  refine Plan.extract_int rfl rfl rfl ?_
  refine Plan.extract_int rfl rfl rfl ?_
  refine Plan.assign_int rfl rfl ?_
  refine Plan.assign_int rfl rfl ?_
  refine Plan.nil ?_
  refine hK8 _ _ ?_; clear hK8
  refine W.seq_k fun K13 hK13 => ?_
  refine W.regionT [(0, true)] (by kernel_rfl) ?_
  refine Plan.assign_int rfl rfl ?_
  refine Plan.nil ?_
  refine hK13 _ _ ?_; clear hK13
  refine W.seq_k fun K14 hK14 => ?_
  refine W.regionT [(0, true), (1, true), (2, true), (3, false), (4, true), (5, true), (6, true), (7, true), (8, false), (9, true)] (by kernel_rfl) ?_
  refine Plan.fieldAddr 1 FField.fld79_1 rfl rfl ?_
  refine Plan.load0 h12 3 rfl rfl rfl (by omega) FField.sc24 ?_
  refine Plan.move_int rfl rfl ?_
  refine Plan.add64 (X := xlo2) (Y := x_11) (C := 0#64) Tryd.func35 rfl rfl rfl rfl rfl rfl rfl rfl (by decide) ?_
  refine Plan.move_tuple rfl rfl ?_
  refine Plan.extract_int rfl rfl rfl ?_
  refine Plan.extract_int rfl rfl rfl ?_
  refine Plan.fieldAddr 1 FField.fld79_1 rfl rfl ?_
  refine Plan.storeC_int h12 3 rfl rfl rfl rfl FField.sz24 rfl fun w15 h15 => ?_
  simp only [List.cons_append, List.nil_append, List.set_cons_zero, List.set_cons_succ] at h15
  refine Plan.assign_int rfl rfl ?_
  refine Plan.nil ?_
  refine hK14 _ _ ?_; clear hK14
  refine W.seq_k fun K16 hK16 => ?_
  refine W.regionT [(0, true), (1, true), (2, true), (3, true), (4, false), (5, true), (6, true), (7, true), (8, true), (9, false)] (by kernel_rfl) ?_
  refine Plan.fieldAddr0 FField.fld79_0 rfl rfl ?_
  refine Plan.load0 h15 2 rfl rfl rfl (by omega) FField.sc24 ?_
  refine Plan.move_int rfl rfl ?_
  refine Plan.move_int rfl rfl ?_
  obtain ⟨hc17, hR⟩ := hR
  refine Plan.add64 (X := xhi1) (Y := x_10) (C := (BitVec.ofNat 64 ((xlo2.toNat + x_11.toNat + (0#64).toNat) / 2 ^ 64))) Tryd.func35 rfl rfl rfl rfl rfl rfl rfl rfl hc17 ?_
  refine Plan.move_tuple rfl rfl ?_
  refine Plan.extract_int rfl rfl rfl ?_
  refine Plan.extract_int rfl rfl rfl ?_
  refine Plan.fieldAddr0 FField.fld79_0 rfl rfl ?_
  refine Plan.storeC_int h15 2 rfl rfl rfl rfl FField.sz24 rfl fun w18 h18 => ?_
  simp only [List.cons_append, List.nil_append, List.set_cons_zero, List.set_cons_succ] at h18
  refine Plan.nil ?_
  refine hK16 _ _ ?_; clear hK16
  refine W.seq_k fun K19 hK19 => ?_
  refine W.regionT [(0, true), (1, false)] (by kernel_rfl) ?_
  refine Plan.loadA h18 rfl rfl (.cons 2 rfl (.cons 3 rfl .nil)) FField.agg79 ?_
  refine Plan.storeP (ps := [(1, fun _ => VU .u64 (xhi1 + x_10 + (BitVec.ofNat 64 ((xlo2.toNat + x_11.toNat + (0#64).toNat) / 2 ^ 64)))), (1, fun _ => VU .u64 (xlo2 + x_11 + (0#64)))]) h18 rfl rfl rfl (.cons 0 rfl (.cons 1 rfl .nil)) ⟨fun _ _ => rfl, fun _ _ => rfl, trivial⟩ FField.sz79 (EffO.wait rfl) fun w20 h20 => ?_
  simp only [List.cons_append, List.nil_append, List.set_cons_zero, List.set_cons_succ] at h20
  refine Plan.nil ?_
  refine hK19 _ _ ?_; clear hK19
  refine W.ret (finR_ret ?_)
  have h21 := St.pickT (C := [_, _, _, _]) h20 [] (by decide)
  simp only [pick, List.filterMap_cons, List.filterMap_nil, List.getElem?_cons_zero, List.getElem?_cons_succ, List.cons_append, List.nil_append] at h21
  subst r
  refine RetOk.mk (.agg h20 rfl (.cons 0 rfl (.cons 1 rfl .nil)) FField.agg79 .nil) ?_
  exact ⟨rfl, h21⟩


set_option maxRecDepth 8000 in
set_option maxHeartbeats 1000000 in
theorem field_limbs_carried_ok {B : Nat} {w0 w : World} {L : List Rg} {l_1 : Nat → BitVec 64} {r : (Nat → BitVec 64)} (hR : field_limbs_carried l_1 r) (HST : St B w0 (L) w) :
    Calls Tryd.prog 33 #[AG [(5, fun q => VU .u64 (l_1 q))]] w fun e w' => e = .returned (AG [(5, fun q => VU .u64 (r q))]) ∧ St B w0 (L) w' := by
  refine W.enter 31 Tryd.func33 rfl rfl rfl ?_
  unfold field_limbs_carried at hR
  refine W.seq_k fun K2 hK2 => ?_
  refine W.regionT [(0, false), (1, false)] (by kernel_rfl) ?_
  refine Plan.boxA HST rfl rfl PIn.nil fun b3 w3 hb3 h3 => ?_
  simp only [rngs, Nat.zero_add, Nat.reduceAdd, List.cons_append, List.nil_append] at h3
  refine Plan.alloc h3 rfl FField.z26 PIn.nil fun b4 w4 hb4 h4 => ?_
  simp only [rngs, Nat.zero_add, Nat.reduceAdd, List.cons_append, List.nil_append] at h4
  refine Plan.nil ?_
  refine hK2 _ _ ?_; clear hK2
  refine W.seq_k fun K5 hK5 => ?_
  refine W.regionT [(0, true)] (by kernel_rfl) ?_
  refine Plan.assign_int rfl rfl ?_
  refine Plan.nil ?_
  refine hK5 _ _ ?_; clear hK5
  refine W.seq_k fun K6 hK6 => ?_
  refine W.seq_k fun K7 hK7 => ?_
  refine W.regionT [(0, true)] (by kernel_rfl) ?_
  refine Plan.move_int rfl rfl ?_
  refine Plan.nil ?_
  refine hK7 _ _ ?_; clear hK7
  obtain ⟨c32, m33, hI34, hR034⟩ := hR
  refine W.cutN (fun e w => ∃ y_c32 : BitVec 64, ∃ y_m33 : Nat → BitVec 64, (c32, m33) = (y_c32, y_m33) ∧ EnvHas e [(1, .pointer (some ⟨b3, 0, none⟩)), (2, .pointer (some ⟨b4, 0, none⟩)), (3, VU .u64 y_c32)] ∧ St B w0 (⟨some b4, 0, 5, fun q => VU .u64 ((fun _ => 0#64) q), true⟩ :: ⟨some b3, 0, 5, fun q => VU .u64 (y_m33 q), true⟩ :: L) w) ?_ ?_
  ·
    refine W.block ?_
    refine W.iter hI34 (fun (s34 : ((BitVec 64) × Nat × (Nat → BitVec 64))) e w => EnvHas e [(1, .pointer (some ⟨b3, 0, none⟩)), (2, .pointer (some ⟨b4, 0, none⟩)), (3, VU .u64 s34.1), (5, VN s34.2.1)] ∧ St B w0 (⟨some b4, 0, 5, fun q => VU .u64 ((fun _ => 0#64) q), true⟩ :: ⟨some b3, 0, 5, fun q => VU .u64 (s34.2.2 q), true⟩ :: L) w) ⟨(EnvHas.cons rfl (EnvHas.cons rfl (EnvHas.cons rfl (EnvHas.cons rfl EnvHas.nil)))), h4⟩ ?_
    rintro ⟨c29, t30, m31⟩ o34 hR hx34 ev35 wl35 ⟨he35, h35⟩
    obtain ⟨ev35, rfl⟩ := he35.open
    unfold field_limbs_carried_l0 at hR
    refine W.seq_k fun K36 hK36 => ?_
    refine W.regionT [(0, true)] (by kernel_rfl) ?_
    refine Plan.cmpP (a := (((t30 : Nat) : Int) : Int)) (b := (5 : Int)) (p := t30 < 5) rfl rfl rfl rfl icmp_ltN ?_
    refine Plan.nil ?_
    refine hK36 _ _ ?_; clear hK36
    refine W.seq_k fun K37 hK37 => ?_
    by_cases hc38 : t30 < 5
    ·
      replace hR := ifT hR hc38
      refine W.condT (congrArg Value.bool (decide_eq_true hc38)) ?_
      refine W.skip ?_
      refine hK37 _ _ ?_; clear hK37
      refine W.seq_k fun K39 hK39 => ?_
      refine W.block ?_
      refine W.seq_k fun K40 hK40 => ?_
      refine W.regionT [(0, true), (1, true)] (by kernel_rfl) ?_
      refine Plan.move_int rfl rfl ?_
      refine Plan.assign_int rfl rfl ?_
      refine Plan.nil ?_
      refine hK40 _ _ ?_; clear hK40
      refine W.seq_k fun K41 hK41 => ?_
      refine W.regionT [(0, true), (1, true), (2, true), (3, true), (4, true), (5, true), (6, false)] (by kernel_rfl) ?_
      refine Plan.move_int rfl rfl ?_
      refine Plan.idxArr1 (j := t30) FField.arr26 rfl rfl rfl (by omega) ?_
      refine Plan.load1 (j := t30) h35 1 rfl rfl rfl (by omega) FField.sc24 ?_
      refine Plan.move_int rfl rfl ?_
      refine Plan.addU .u64 (X := (m31 t30)) (Y := c29) rfl rfl rfl ?_
      refine Plan.idxArr1 (j := t30) FField.arr26 rfl rfl rfl (by omega) ?_
      refine Plan.storeU (j := t30) (X := ((m31 t30) + c29)) h35 1 rfl rfl rfl rfl (by omega) FField.sz24 rfl fun w42 h42 => ?_
      simp only [List.cons_append, List.nil_append, List.set_cons_zero, List.set_cons_succ] at h42
      refine Plan.nil ?_
      refine hK41 _ _ ?_; clear hK41
      refine W.seq_k fun K43 hK43 => ?_
      refine W.regionT [(0, true), (1, true), (2, true), (3, true), (4, true)] (by kernel_rfl) ?_
      refine Plan.move_int rfl rfl ?_
      refine Plan.idxArr1 (j := t30) FField.arr26 rfl rfl rfl (by omega) ?_
      refine Plan.load1 (j := t30) h42 1 rfl rfl rfl (by omega) FField.sc24 ?_
      refine Plan.shrU .u64 (X := ((upd m31 t30 ((m31 t30) + c29)) t30)) (c := 51) rfl rfl rfl ?_
      refine Plan.assign_int rfl rfl ?_
      refine Plan.nil ?_
      refine hK43 _ _ ?_; clear hK43
      refine W.regionT [(0, true), (1, true), (2, true), (3, true), (4, true), (5, false)] (by kernel_rfl) ?_
      refine Plan.move_int rfl rfl ?_
      refine Plan.idxArr1 (j := t30) FField.arr26 rfl rfl rfl (by omega) ?_
      refine Plan.load1 (j := t30) h42 1 rfl rfl rfl (by omega) FField.sc24 ?_
      refine Plan.andU .u64 (X := ((upd m31 t30 ((m31 t30) + c29)) t30)) (Y := 2251799813685247#64) rfl rfl rfl ?_
      refine Plan.idxArr1 (j := t30) FField.arr26 rfl rfl rfl (by omega) ?_
      refine Plan.storeU (j := t30) (X := (((upd m31 t30 ((m31 t30) + c29)) t30) &&& (2251799813685247#64))) h42 1 rfl rfl rfl rfl (by omega) FField.sz24 rfl fun w44 h44 => ?_
      simp only [List.cons_append, List.nil_append, List.set_cons_zero, List.set_cons_succ] at h44
      refine Plan.nil ?_
      refine blockR_norm ?_
      refine hK39 _ _ ?_; clear hK39
      refine W.regionT [(0, true), (1, true)] (by kernel_rfl) ?_
      refine Plan.addN (a := t30) (b := 1) rfl rfl rfl (by omega) ?_
      refine Plan.move_int rfl rfl ?_
      refine Plan.nil ?_
      exact iterR_norm ⟨_, hR, (EnvHas.cons rfl (EnvHas.cons rfl (EnvHas.cons rfl (EnvHas.cons rfl EnvHas.nil)))), h44⟩
    ·
      replace hR := ifF hR hc38
      refine W.condF (congrArg Value.bool (decide_eq_false hc38)) ?_
      refine W.exit (thenR_exit (iterR_exit (blockR_here ?_)))
      exact ⟨c29, m31, (hx34 _ hR).symm, (EnvHas.cons rfl (EnvHas.cons rfl (EnvHas.cons rfl EnvHas.nil))), h35⟩
  ·
    rintro ev45 wl45 ⟨y_c32, y_m33, hy45, he45, h45⟩
    obtain ⟨ev45, rfl⟩ := he45.open
    cases hy45
    replace hR := hR034
    refine hK6 _ _ ?_; clear hK6
    refine W.seq_k fun K46 hK46 => ?_
    refine W.regionT [(0, true), (1, true), (2, true), (3, true), (4, true), (5, true), (6, false)] (by kernel_rfl) ?_
    refine Plan.idxArr1 (j := 0) FField.arr26 rfl rfl rfl (by omega) ?_
    refine Plan.load1 (j := 0) h45 1 rfl rfl rfl (by omega) FField.sc24 ?_
    refine Plan.move_int rfl rfl ?_
    refine Plan.mulU .u64 (X := 19#64) (Y := c32) rfl rfl rfl ?_
    refine Plan.addU .u64 (X := (m33 0)) (Y := ((19#64) * c32)) rfl rfl rfl ?_
    refine Plan.idxArr1 (j := 0) FField.arr26 rfl rfl rfl (by omega) ?_
    refine Plan.storeU (j := 0) (X := ((m33 0) + ((19#64) * c32))) h45 1 rfl rfl rfl rfl (by omega) FField.sz24 rfl fun w47 h47 => ?_
    simp only [List.cons_append, List.nil_append, List.set_cons_zero, List.set_cons_succ] at h47
    refine Plan.nil ?_
    refine hK46 _ _ ?_; clear hK46
    refine W.seq_k fun K48 hK48 => ?_
    refine W.regionT [(0, true), (1, false)] (by kernel_rfl) ?_
    refine Plan.loadA1 h47 1 rfl rfl rfl FField.agg26 ?_
    refine Plan.storeA (f' := fun q => VU .u64 ((upd m33 0 ((m33 0) + ((19#64) * c32))) q)) h47 0 rfl rfl rfl rfl (fun _ _ => rfl) FField.sz26 rfl fun w49 h49 => ?_
    simp only [List.cons_append, List.nil_append, List.set_cons_zero, List.set_cons_succ] at h49
    refine Plan.nil ?_
    refine hK48 _ _ ?_; clear hK48
    refine W.ret (finR_ret ?_)
    have h50 := St.pickT (C := [_, _]) h49 [] (by decide)
    simp only [pick, List.filterMap_cons, List.filterMap_nil, List.getElem?_cons_zero, List.getElem?_cons_succ, List.cons_append, List.nil_append] at h50
    subst r
    refine RetOk.mk (.agg h49 rfl (.cons 0 rfl .nil) FField.agg26 .nil) ?_
    exact ⟨rfl, h50⟩


set_option maxRecDepth 8000 in
set_option maxHeartbeats 1000000 in
theorem field_Elem_Mul_ok {B : Nat} {w0 w : World} {L : List Rg} {al1 : Nat → BitVec 64} {bl2 : Nat → BitVec 64} {r : (Nat → BitVec 64)} (hR : field_Elem_Mul al1 bl2 r) (HST : St B w0 (L) w) :
    Calls Tryd.prog 16 #[AG [(5, fun q => VU .u64 (al1 q))], AG [(5, fun q => VU .u64 (bl2 q))]] w fun e w' => e = .returned (AG [(5, fun q => VU .u64 (r q))]) ∧ St B w0 (L) w' := by
  refine W.enter 86 Tryd.func16 rfl rfl rfl ?_
  unfold field_Elem_Mul at hR
  refine W.seq_k fun K3 hK3 => ?_
  refine W.regionT [(0, false), (1, false), (2, false)] (by kernel_rfl) ?_
  refine Plan.boxA HST rfl rfl PIn.nil fun b4 w4 hb4 h4 => ?_
  simp only [rngs, Nat.zero_add, Nat.reduceAdd, List.cons_append, List.nil_append] at h4
  refine Plan.boxA h4 rfl rfl PIn.nil fun b5 w5 hb5 h5 => ?_
  simp only [rngs, Nat.zero_add, Nat.reduceAdd, List.cons_append, List.nil_append] at h5
  refine Plan.alloc h5 rfl FField.z28 PIn.nil fun b6 w6 hb6 h6 => ?_
  simp only [rngs, Nat.zero_add, Nat.reduceAdd, List.cons_append, List.nil_append] at h6
  refine Plan.nil ?_
  refine hK3 _ _ ?_; clear hK3
  refine W.seq_k fun K7 hK7 => ?_
  refine W.regionT [(0, false)] (by kernel_rfl) ?_
  refine Plan.alloc h6 rfl FField.z80 PIn.nil fun b8 w8 hb8 h8 => ?_
  simp only [rngs, Nat.zero_add, Nat.reduceAdd, List.cons_append, List.nil_append] at h8
  refine Plan.nil ?_
  refine hK7 _ _ ?_; clear hK7
  refine W.seq_k fun K9 hK9 => ?_
  refine W.seq_k fun K10 hK10 => ?_
  refine W.regionT [(0, true)] (by kernel_rfl) ?_
  refine Plan.move_int rfl rfl ?_
  refine Plan.nil ?_
  refine hK10 _ _ ?_; clear hK10
  obtain ⟨m163, hI164, hR0164⟩ := hR
  refine W.cutN (fun e w => ∃ y_m163 : Nat → BitVec 64, m163 = y_m163 ∧ EnvHas e [(4, .pointer (some ⟨b6, 0, none⟩)), (5, .pointer (some ⟨b8, 0, none⟩))] ∧ St B w0 (⟨some b8, 0, 10, fun q => VU .u64 (y_m163 q), true⟩ :: ⟨some b6, 0, 5, fun q => VU .u64 ((fun _ => 0#64) q), true⟩ :: L) w) ?_ ?_
  ·
    refine W.block ?_
    refine W.iter hI164 (fun (s164 : (Nat × (Nat → BitVec 64))) e w => EnvHas e [(2, .pointer (some ⟨b4, 0, none⟩)), (3, .pointer (some ⟨b5, 0, none⟩)), (4, .pointer (some ⟨b6, 0, none⟩)), (5, .pointer (some ⟨b8, 0, none⟩)), (16, VN s164.1)] ∧ St B w0 (⟨some b8, 0, 10, fun q => VU .u64 (s164.2 q), true⟩ :: ⟨some b6, 0, 5, fun q => VU .u64 ((fun _ => 0#64) q), true⟩ :: ⟨some b5, 0, 5, fun q => VU .u64 (bl2 q), true⟩ :: ⟨some b4, 0, 5, fun q => VU .u64 (al1 q), true⟩ :: L) w) ⟨(EnvHas.cons rfl (EnvHas.cons rfl (EnvHas.cons rfl (EnvHas.cons rfl (EnvHas.cons rfl EnvHas.nil))))), h8⟩ ?_
    rintro ⟨t161, m162⟩ o164 hR hx164 ev165 wl165 ⟨he165, h165⟩
    obtain ⟨ev165, rfl⟩ := he165.open
    unfold field_Elem_Mul_l0 at hR
    refine W.seq_k fun K166 hK166 => ?_
    refine W.regionT [(0, true)] (by kernel_rfl) ?_
    refine Plan.cmpP (a := (((t161 : Nat) : Int) : Int)) (b := (5 : Int)) (p := t161 < 5) rfl rfl rfl rfl icmp_ltN ?_
    refine Plan.nil ?_
    refine hK166 _ _ ?_; clear hK166
    refine W.seq_k fun K167 hK167 => ?_
    by_cases hc168 : t161 < 5
    ·
      replace hR := ifT hR hc168
      refine W.condT (congrArg Value.bool (decide_eq_true hc168)) ?_
      refine W.skip ?_
      refine hK167 _ _ ?_; clear hK167
      refine W.seq_k fun K169 hK169 => ?_
      refine W.block ?_
      refine W.seq_k fun K170 hK170 => ?_
      refine W.regionT [(0, true), (1, true)] (by kernel_rfl) ?_
      refine Plan.move_int rfl rfl ?_
      refine Plan.assign_int rfl rfl ?_
      refine Plan.nil ?_
      refine hK170 _ _ ?_; clear hK170
      refine W.seq_k fun K171 hK171 => ?_
      refine W.regionT [(0, true)] (by kernel_rfl) ?_
      refine Plan.move_int rfl rfl ?_
      refine Plan.nil ?_
      refine hK171 _ _ ?_; clear hK171
      obtain ⟨m216, hI217, hR0217⟩ := hR
      refine W.cutN (fun e w => ∃ y_m216 : Nat → BitVec 64, m216 = y_m216 ∧ EnvHas e [(2, .pointer (some ⟨b4, 0, none⟩)), (3, .pointer (some ⟨b5, 0, none⟩)), (4, .pointer (some ⟨b6, 0, none⟩)), (5, .pointer (some ⟨b8, 0, none⟩)), (16, VN t161)] ∧ St B w0 (⟨some b8, 0, 10, fun q => VU .u64 (y_m216 q), true⟩ :: ⟨some b6, 0, 5, fun q => VU .u64 ((fun _ => 0#64) q), true⟩ :: ⟨some b5, 0, 5, fun q => VU .u64 (bl2 q), true⟩ :: ⟨some b4, 0, 5, fun q => VU .u64 (al1 q), true⟩ :: L) w) ?_ ?_
      ·
        refine W.block ?_
        refine W.iter hI217 (fun (s217 : (Nat × (Nat → BitVec 64))) e w => EnvHas e [(2, .pointer (some ⟨b4, 0, none⟩)), (3, .pointer (some ⟨b5, 0, none⟩)), (4, .pointer (some ⟨b6, 0, none⟩)), (5, .pointer (some ⟨b8, 0, none⟩)), (6, VN t161), (16, VN t161), (19, VN s217.1)] ∧ St B w0 (⟨some b8, 0, 10, fun q => VU .u64 (s217.2 q), true⟩ :: ⟨some b6, 0, 5, fun q => VU .u64 ((fun _ => 0#64) q), true⟩ :: ⟨some b5, 0, 5, fun q => VU .u64 (bl2 q), true⟩ :: ⟨some b4, 0, 5, fun q => VU .u64 (al1 q), true⟩ :: L) w) ⟨(EnvHas.cons rfl (EnvHas.cons rfl (EnvHas.cons rfl (EnvHas.cons rfl (EnvHas.cons rfl (EnvHas.cons rfl (EnvHas.cons rfl EnvHas.nil))))))), h165⟩ ?_
        rintro ⟨t214, m215⟩ o217 hR hx217 ev218 wl218 ⟨he218, h218⟩
        obtain ⟨ev218, rfl⟩ := he218.open
        unfold field_Elem_Mul_l1 at hR
        refine W.seq_k fun K219 hK219 => ?_
        refine W.regionT [(0, true)] (by kernel_rfl) ?_
        refine Plan.cmpP (a := (((t214 : Nat) : Int) : Int)) (b := (5 : Int)) (p := t214 < 5) rfl rfl rfl rfl icmp_ltN ?_
        refine Plan.nil ?_
        refine hK219 _ _ ?_; clear hK219
        refine W.seq_k fun K220 hK220 => ?_
        by_cases hc221 : t214 < 5
        ·
          replace hR := ifT hR hc221
          refine W.condT (congrArg Value.bool (decide_eq_true hc221)) ?_
          refine W.skip ?_
          refine hK220 _ _ ?_; clear hK220
          refine W.seq_k fun K222 hK222 => ?_
          refine W.block ?_
          refine W.seq_k fun K223 hK223 => ?_
          refine W.regionT [(0, true), (1, true)] (by kernel_rfl) ?_
          refine Plan.move_int rfl rfl ?_
          refine Plan.assign_int rfl rfl ?_
          refine Plan.nil ?_
          refine hK223 _ _ ?_; clear hK223
          refine W.seq_k fun K224 hK224 => ?_
          refine W.regionT [(0, true), (1, true), (2, true), (3, true), (4, true)] (by kernel_rfl) ?_
          refine Plan.move_int rfl rfl ?_
          refine Plan.fieldAddr0 FField.fld28_0 rfl rfl ?_
          refine Plan.idxArr1 (j := t214) FField.arr26 rfl rfl rfl (by omega) ?_
          refine Plan.load1 (j := t214) h218 2 rfl rfl rfl (by omega) FField.sc24 ?_
          refine Plan.assign_int rfl rfl ?_
          refine Plan.nil ?_
          refine hK224 _ _ ?_; clear hK224
          refine W.seq_k fun K225 hK225 => ?_
          obtain ⟨y228, hX229, hR0229⟩ := hR
          refine W.cutN (fun e w => ∃ y_y228 : BitVec 64, (y228 = y_y228) ∧ EnvHas e [(2, .pointer (some ⟨b4, 0, none⟩)), (3, .pointer (some ⟨b5, 0, none⟩)), (4, .pointer (some ⟨b6, 0, none⟩)), (5, .pointer (some ⟨b8, 0, none⟩)), (6, VN t161), (7, VN t214), (8, VU .u64 y_y228), (16, VN t161), (19, VN t214)] ∧ St B w0 (⟨some b8, 0, 10, fun q => VU .u64 (m215 q), true⟩ :: ⟨some b6, 0, 5, fun q => VU .u64 ((fun _ => 0#64) q), true⟩ :: ⟨some b5, 0, 5, fun q => VU .u64 (bl2 q), true⟩ :: ⟨some b4, 0, 5, fun q => VU .u64 (al1 q), true⟩ :: L) w) ?_ ?_
          ·
            replace hR := hX229
            refine W.seq_k fun K230 hK230 => ?_
            refine W.regionT [(0, true), (1, true), (2, true), (3, true)] (by kernel_rfl) ?_
            refine Plan.move_int rfl rfl ?_
            refine Plan.move_int rfl rfl ?_
            refine Plan.addN (a := t161) (b := t214) rfl rfl rfl (by omega) ?_
            refine Plan.cmpP (a := ((((t161 + t214) : Nat) : Int) : Int)) (b := (5 : Int)) (p := 5 ≤ (t161 + t214)) rfl rfl rfl rfl icmp_geN ?_
            refine Plan.nil ?_
            refine hK230 _ _ ?_; clear hK230
            by_cases hc231 : 5 ≤ (t161 + t214)
            ·
              replace hR := ifT hR hc231
              refine W.condT (congrArg Value.bool (decide_eq_true hc231)) ?_
              refine W.regionT [(0, true), (1, true), (2, true)] (by kernel_rfl) ?_
              refine Plan.move_int rfl rfl ?_
              refine Plan.mulU .u64 (X := (bl2 t214)) (Y := 19#64) rfl rfl rfl ?_
              refine Plan.assign_int rfl rfl ?_
              refine Plan.nil ?_
              exact ⟨((bl2 t214) * (19#64)), hR, (EnvHas.cons rfl (EnvHas.cons rfl (EnvHas.cons rfl (EnvHas.cons rfl (EnvHas.cons rfl (EnvHas.cons rfl (EnvHas.cons rfl (EnvHas.cons rfl (EnvHas.cons rfl EnvHas.nil))))))))), h218⟩
            ·
              replace hR := ifF hR hc231
              refine W.condF (congrArg Value.bool (decide_eq_false hc231)) ?_
              refine W.skip ?_
              exact ⟨(bl2 t214), hR, (EnvHas.cons rfl (EnvHas.cons rfl (EnvHas.cons rfl (EnvHas.cons rfl (EnvHas.cons rfl (EnvHas.cons rfl (EnvHas.cons rfl (EnvHas.cons rfl (EnvHas.cons rfl EnvHas.nil))))))))), h218⟩
          ·
            rintro ev232 wl232 ⟨y_y228, hy232_0, he232, h232⟩
            subst hy232_0
            obtain ⟨ev232, rfl⟩ := he232.open
            replace hR := hR0229
            refine hK225 _ _ ?_; clear hK225
            refine W.regionD FField.mixed [(0, true), (1, true), (2, true), (3, true), (4, true), (5, true), (6, true), (7, true), (8, true), (9, true), (10, true), (11, true), (12, true), (13, true), (14, true), (15, false), (16, true), (17, false)] (by kernel_rfl) ?_
            have h233 := h232.drew
            refine Plan.move_int rfl rfl ?_
            refine Plan.move_int rfl rfl ?_
            refine Plan.addN (a := t161) (b := t214) rfl rfl rfl (by omega) ?_
            refine Plan.remN (a := (t161 + t214)) (b := 5) rfl rfl rfl (by omega) ?_
            refine Plan.move_int rfl rfl ?_
            refine Plan.move_int rfl rfl ?_
            refine Plan.addN (a := t161) (b := t214) rfl rfl rfl (by omega) ?_
            refine Plan.remN (a := (t161 + t214)) (b := 5) rfl rfl rfl (by omega) ?_
            refine Plan.idxArrO (j := ((t161 + t214) % 5)) (o' := 0 + (((t161 + t214) % 5) * 2)) FField.arr80 rfl rfl rfl (by omega) (by omega) ?_
            refine Plan.loadSub (m' := 2) h233 0 (((t161 + t214) % 5) * 2) rfl rfl rfl rfl (by omega) FField.agg79 ?_
            refine Plan.move_int rfl rfl ?_
            refine Plan.fieldAddr0 FField.fld28_0 rfl rfl ?_
            refine Plan.idxArr1 (j := t161) FField.arr26 rfl rfl rfl (by omega) ?_
            refine Plan.load1 (j := t161) h233 3 rfl rfl rfl (by omega) FField.sc24 ?_
            refine Plan.move_int rfl rfl ?_
            obtain ⟨x_235, x_236, hr234, hR⟩ := hR
            refine Plan.call (vs := [AG [(1, fun _ => VU .u64 (m215 ((((t161 + t214) % 5) * 2) + 0))), (1, fun _ => VU .u64 (m215 ((((t161 + t214) % 5) * 2) + 1)))], VU .u64 (al1 t161), VU .u64 y228]) rfl FField.call34 rfl (field_long_plus_ok  hr234 h233) ?_
            rintro _ w237 ⟨rfl, h237⟩
            refine ⟨_, rfl, .inr ⟨rfl, ?_⟩⟩
            refine Plan.idxArrO (j := ((t161 + t214) % 5)) (o' := 0 + (((t161 + t214) % 5) * 2)) FField.arr80 rfl rfl rfl (by omega) (by omega) ?_
            refine Plan.storeSub (m' := 2) (j := ((t161 + t214) % 5) * 2) (f' := fun q => VU .u64 ((lit [x_235, x_236]) q)) h237 0 rfl rfl rfl rfl rfl (by omega) (fun _ _ => rfl) FField.sz79 (EffO.keep PIn.nil) fun w238 h238 => ?_
            simp only [List.cons_append, List.nil_append, List.set_cons_zero, List.set_cons_succ] at h238
            simp only [← spl_map (fun z => VU .u64 z)] at h238
            refine Plan.nil ?_
            refine blockR_norm ?_
            refine hK222 _ _ ?_; clear hK222
            refine W.regionT [(0, true), (1, true)] (by kernel_rfl) ?_
            refine Plan.addN (a := t214) (b := 1) rfl rfl rfl (by omega) ?_
            refine Plan.move_int rfl rfl ?_
            refine Plan.nil ?_
            exact iterR_norm ⟨_, hR, (EnvHas.cons rfl (EnvHas.cons rfl (EnvHas.cons rfl (EnvHas.cons rfl (EnvHas.cons rfl (EnvHas.cons rfl (EnvHas.cons rfl EnvHas.nil))))))), h238⟩
        ·
          replace hR := ifF hR hc221
          refine W.condF (congrArg Value.bool (decide_eq_false hc221)) ?_
          refine W.exit (thenR_exit (iterR_exit (blockR_here ?_)))
          exact ⟨m215, (hx217 _ hR).symm, (EnvHas.cons rfl (EnvHas.cons rfl (EnvHas.cons rfl (EnvHas.cons rfl (EnvHas.cons rfl EnvHas.nil))))), h218⟩
      ·
        rintro ev239 wl239 ⟨y_m216, hy239, he239, h239⟩
        obtain ⟨ev239, rfl⟩ := he239.open
        subst hy239
        replace hR := hR0217
        refine blockR_norm ?_
        refine hK169 _ _ ?_; clear hK169
        refine W.regionT [(0, true), (1, true)] (by kernel_rfl) ?_
        refine Plan.addN (a := t161) (b := 1) rfl rfl rfl (by omega) ?_
        refine Plan.move_int rfl rfl ?_
        refine Plan.nil ?_
        exact iterR_norm ⟨_, hR, (EnvHas.cons rfl (EnvHas.cons rfl (EnvHas.cons rfl (EnvHas.cons rfl (EnvHas.cons rfl EnvHas.nil))))), h239⟩
    ·
      replace hR := ifF hR hc168
      refine W.condF (congrArg Value.bool (decide_eq_false hc168)) ?_
      refine W.exit (thenR_exit (iterR_exit (blockR_here ?_)))
      have h240 := St.pickT (C := [_, _, _, _]) h165 [0, 1] (by decide)
      simp only [pick, List.filterMap_cons, List.filterMap_nil, List.getElem?_cons_zero, List.getElem?_cons_succ, List.cons_append, List.nil_append] at h240
      exact ⟨m162, (hx164 _ hR).symm, (EnvHas.cons rfl (EnvHas.cons rfl EnvHas.nil)), h240⟩
  ·
    rintro ev241 wl241 ⟨y_m163, hy241, he241, h241⟩
    obtain ⟨ev241, rfl⟩ := he241.open
    subst hy241
    replace hR := hR0164
    refine hK9 _ _ ?_; clear hK9
    refine W.seq_k fun K242 hK242 => ?_
    refine W.regionT [(0, false)] (by kernel_rfl) ?_
    refine Plan.alloc h241 rfl FField.z26 PIn.nil fun b243 w243 hb243 h243 => ?_
    simp only [rngs, Nat.zero_add, Nat.reduceAdd, List.cons_append, List.nil_append] at h243
    refine Plan.nil ?_
    refine hK242 _ _ ?_; clear hK242
    refine W.seq_k fun K244 hK244 => ?_
    refine W.regionT [(0, true)] (by kernel_rfl) ?_
    refine Plan.assign_int rfl rfl ?_
    refine Plan.nil ?_
    refine hK244 _ _ ?_; clear hK244
    refine W.seq_k fun K245 hK245 => ?_
    refine W.seq_k fun K246 hK246 => ?_
    refine W.regionT [(0, true), (1, true)] (by kernel_rfl) ?_
    refine Plan.loadA1 h243 1 rfl rfl rfl FField.agg80 ?_
    refine Plan.move_int rfl rfl ?_
    refine Plan.nil ?_
    refine hK246 _ _ ?_; clear hK246
    obtain ⟨c275, m276, hI277, hR0277⟩ := hR
    refine W.cutN (fun e w => ∃ y_c275 : BitVec 64, ∃ y_m276 : Nat → BitVec 64, (c275, m276) = (y_c275, y_m276) ∧ EnvHas e [(4, .pointer (some ⟨b6, 0, none⟩)), (9, .pointer (some ⟨b243, 0, none⟩)), (10, VU .u64 y_c275)] ∧ St B w0 (⟨some b243, 0, 5, fun q => VU .u64 (y_m276 q), true⟩ :: ⟨some b6, 0, 5, fun q => VU .u64 ((fun _ => 0#64) q), true⟩ :: L) w) ?_ ?_
    ·
      refine W.block ?_
      have h278 := St.pickT (C := [_, _, _]) h243 [0, 2] (by decide)
      simp only [pick, List.filterMap_cons, List.filterMap_nil, List.getElem?_cons_zero, List.getElem?_cons_succ, List.cons_append, List.nil_append] at h278
      refine W.iter hI277 (fun (s277 : ((BitVec 64) × Nat × (Nat → BitVec 64))) e w => EnvHas e [(4, .pointer (some ⟨b6, 0, none⟩)), (9, .pointer (some ⟨b243, 0, none⟩)), (10, VU .u64 s277.1), (51, AG [(10, fun q => VU .u64 (m163 q))]), (52, VN s277.2.1)] ∧ St B w0 (⟨some b243, 0, 5, fun q => VU .u64 (s277.2.2 q), true⟩ :: ⟨some b6, 0, 5, fun q => VU .u64 ((fun _ => 0#64) q), true⟩ :: L) w) ⟨(EnvHas.cons rfl (EnvHas.cons rfl (EnvHas.cons rfl (EnvHas.cons rfl (EnvHas.cons rfl EnvHas.nil))))), h278⟩ ?_
      rintro ⟨c272, t273, m274⟩ o277 hR hx277 ev279 wl279 ⟨he279, h279⟩
      obtain ⟨ev279, rfl⟩ := he279.open
      unfold field_Elem_Mul_l2 at hR
      refine W.seq_k fun K280 hK280 => ?_
      refine W.regionT [(0, true)] (by kernel_rfl) ?_
      refine Plan.cmpP (a := (((t273 : Nat) : Int) : Int)) (b := (5 : Int)) (p := t273 < 5) rfl rfl rfl rfl icmp_ltN ?_
      refine Plan.nil ?_
      refine hK280 _ _ ?_; clear hK280
      refine W.seq_k fun K281 hK281 => ?_
      by_cases hc282 : t273 < 5
      ·
        replace hR := ifT hR hc282
        refine W.condT (congrArg Value.bool (decide_eq_true hc282)) ?_
        refine W.skip ?_
        refine hK281 _ _ ?_; clear hK281
        refine W.seq_k fun K283 hK283 => ?_
        refine W.block ?_
        refine W.seq_k fun K284 hK284 => ?_
        refine W.regionT [(0, true), (1, true), (2, false), (3, true), (4, false)] (by kernel_rfl) ?_
        refine Plan.move_int rfl rfl ?_
        refine Plan.indexAA (j := t273) (sz := 2) FField.isarr80 FField.agg79 rfl rfl rfl (by omega) (by decide) ?_
        refine Plan.alloc h279 rfl FField.z79 PIn.nil fun b285 w285 hb285 h285 => ?_
        simp only [rngs, Nat.zero_add, Nat.reduceAdd, List.cons_append, List.nil_append] at h285
        refine Plan.assign_int rfl rfl ?_
        refine Plan.storeP (ps := [(1, fun _ => VU .u64 (m163 (t273 * 2 + 0))), (1, fun _ => VU .u64 (m163 (t273 * 2 + 1)))]) h285 rfl rfl rfl (.cons 0 rfl (.cons 1 rfl .nil)) ⟨fun _ _ => rfl, fun _ _ => rfl, trivial⟩ FField.sz79 (EffO.keep PIn.nil) fun w286 h286 => ?_
        simp only [List.cons_append, List.nil_append, List.set_cons_zero, List.set_cons_succ] at h286
        refine Plan.nil ?_
        refine hK284 _ _ ?_; clear hK284
        refine W.seq_k fun K287 hK287 => ?_
        refine W.regionT [(0, true), (1, true), (2, true), (3, false), (4, true), (5, true), (6, true), (7, true), (8, true)] (by kernel_rfl) ?_
        refine Plan.fieldAddr 1 FField.fld79_1 rfl rfl ?_
        refine Plan.load0 h286 1 rfl rfl rfl (by omega) FField.sc24 ?_
        refine Plan.move_int rfl rfl ?_
        refine Plan.add64 (X := (m163 (t273 * 2 + 1))) (Y := c272) (C := 0#64) Tryd.func35 rfl rfl rfl rfl rfl rfl rfl rfl (by decide) ?_
        refine Plan.move_tuple rfl rfl ?_
        refine Plan.extract_int rfl rfl rfl ?_
        refine Plan.extract_int rfl rfl rfl ?_
        refine Plan.assign_int rfl rfl ?_
        refine Plan.assign_int rfl rfl ?_
        refine Plan.nil ?_
        refine hK287 _ _ ?_; clear hK287
        refine W.seq_k fun K288 hK288 => ?_
        refine W.regionT [(0, true), (1, true), (2, true), (3, true), (4, true)] (by kernel_rfl) ?_
        refine Plan.fieldAddr0 FField.fld79_0 rfl rfl ?_
        refine Plan.load0 h286 0 rfl rfl rfl (by omega) FField.sc24 ?_
        refine Plan.move_int rfl rfl ?_
        refine Plan.addU .u64 (X := (m163 (t273 * 2 + 0))) (Y := (BitVec.ofNat 64 (((m163 (t273 * 2 + 1)).toNat + c272.toNat + (0#64).toNat) / 2 ^ 64))) rfl rfl rfl ?_
        refine Plan.assign_int rfl rfl ?_
        refine Plan.nil ?_
        refine hK288 _ _ ?_; clear hK288
        refine W.seq_k fun K289 hK289 => ?_
        refine W.regionT [(0, true), (1, true), (2, true), (3, true), (4, false)] (by kernel_rfl) ?_
        refine Plan.move_int rfl rfl ?_
        refine Plan.move_int rfl rfl ?_
        refine Plan.andU .u64 (X := ((m163 (t273 * 2 + 1)) + c272 + (0#64))) (Y := 2251799813685247#64) rfl rfl rfl ?_
        refine Plan.idxArr1 (j := t273) FField.arr26 rfl rfl rfl (by omega) ?_
        refine Plan.storeU (j := t273) (X := (((m163 (t273 * 2 + 1)) + c272 + (0#64)) &&& (2251799813685247#64))) h286 2 rfl rfl rfl rfl (by omega) FField.sz24 rfl fun w290 h290 => ?_
        simp only [List.cons_append, List.nil_append, List.set_cons_zero, List.set_cons_succ] at h290
        refine Plan.nil ?_
        refine hK289 _ _ ?_; clear hK289
        refine W.regionT [(0, true), (1, true), (2, true), (3, true), (4, true), (5, true)] (by kernel_rfl) ?_
        refine Plan.move_int rfl rfl ?_
        refine Plan.shlU .u64 (X := ((m163 (t273 * 2 + 0)) + (BitVec.ofNat 64 (((m163 (t273 * 2 + 1)).toNat + c272.toNat + (0#64).toNat) / 2 ^ 64)))) (c := 13) rfl rfl rfl ?_
        refine Plan.move_int rfl rfl ?_
        refine Plan.shrU .u64 (X := ((m163 (t273 * 2 + 1)) + c272 + (0#64))) (c := 51) rfl rfl rfl ?_
        refine Plan.orU .u64 (X := (((m163 (t273 * 2 + 0)) + (BitVec.ofNat 64 (((m163 (t273 * 2 + 1)).toNat + c272.toNat + (0#64).toNat) / 2 ^ 64))) <<< 13)) (Y := (((m163 (t273 * 2 + 1)) + c272 + (0#64)) >>> 51)) rfl rfl rfl ?_
        refine Plan.assign_int rfl rfl ?_
        refine Plan.nil ?_
        refine blockR_norm ?_
        refine hK283 _ _ ?_; clear hK283
        refine W.regionT [(0, true), (1, true)] (by kernel_rfl) ?_
        refine Plan.addN (a := t273) (b := 1) rfl rfl rfl (by omega) ?_
        refine Plan.move_int rfl rfl ?_
        refine Plan.nil ?_
        have h291 := St.pickT (C := [_, _, _, _]) h290 [2, 3] (by decide)
        simp only [pick, List.filterMap_cons, List.filterMap_nil, List.getElem?_cons_zero, List.getElem?_cons_succ, List.cons_append, List.nil_append] at h291
        exact iterR_norm ⟨_, hR, (EnvHas.cons rfl (EnvHas.cons rfl (EnvHas.cons rfl (EnvHas.cons rfl (EnvHas.cons rfl EnvHas.nil))))), h291⟩
      ·
        replace hR := ifF hR hc282
        refine W.condF (congrArg Value.bool (decide_eq_false hc282)) ?_
        refine W.exit (thenR_exit (iterR_exit (blockR_here ?_)))
        exact ⟨c272, m274, (hx277 _ hR).symm, (EnvHas.cons rfl (EnvHas.cons rfl (EnvHas.cons rfl EnvHas.nil))), h279⟩
    ·
      rintro ev292 wl292 ⟨y_c275, y_m276, hy292, he292, h292⟩
      obtain ⟨ev292, rfl⟩ := he292.open
      cases hy292
      replace hR := hR0277
      refine hK245 _ _ ?_; clear hK245
      refine W.seq_k fun K293 hK293 => ?_
      refine W.regionT [(0, true), (1, true), (2, true), (3, true), (4, true), (5, true), (6, false)] (by kernel_rfl) ?_
      refine Plan.idxArr1 (j := 0) FField.arr26 rfl rfl rfl (by omega) ?_
      refine Plan.load1 (j := 0) h292 0 rfl rfl rfl (by omega) FField.sc24 ?_
      refine Plan.move_int rfl rfl ?_
      refine Plan.mulU .u64 (X := 19#64) (Y := c275) rfl rfl rfl ?_
      refine Plan.addU .u64 (X := (m276 0)) (Y := ((19#64) * c275)) rfl rfl rfl ?_
      refine Plan.idxArr1 (j := 0) FField.arr26 rfl rfl rfl (by omega) ?_
      refine Plan.storeU (j := 0) (X := ((m276 0) + ((19#64) * c275))) h292 0 rfl rfl rfl rfl (by omega) FField.sz24 rfl fun w294 h294 => ?_
      simp only [List.cons_append, List.nil_append, List.set_cons_zero, List.set_cons_succ] at h294
      refine Plan.nil ?_
      refine hK293 _ _ ?_; clear hK293
      refine W.seq_k fun K295 hK295 => ?_
      refine W.regionT [(0, true), (1, false), (2, true), (3, false)] (by kernel_rfl) ?_
      refine Plan.loadA1 h294 0 rfl rfl rfl FField.agg26 ?_
      obtain ⟨x_297, hr296, hR⟩ := hR
      refine Plan.call (vs := [AG [(5, fun q => VU .u64 ((upd m276 0 ((m276 0) + ((19#64) * c275))) q))]]) rfl FField.call33 rfl (field_limbs_carried_ok  hr296 h294) ?_
      rintro _ w298 ⟨rfl, h298⟩
      refine ⟨_, rfl, .inr ⟨rfl, ?_⟩⟩
      refine Plan.buildP (ps := [(5, fun q => VU .u64 (x_297 q))]) FField.pl28 (by decide) FField.z28 rfl rfl (.agg [] [(5, fun q => VU .u64 ((fun _ => 0#64) q))] [] [(5, fun q => VU .u64 (x_297 q))] rfl rfl .nil) ?_
      refine Plan.storeA (f' := fun q => VU .u64 (x_297 q)) h298 1 rfl rfl rfl rfl (fun _ _ => rfl) FField.sz28 rfl fun w299 h299 => ?_
      simp only [List.cons_append, List.nil_append, List.set_cons_zero, List.set_cons_succ] at h299
      refine Plan.nil ?_
      refine hK295 _ _ ?_; clear hK295
      refine W.ret (finR_ret ?_)
      have h300 := St.pickT (C := [_, _]) h299 [] (by decide)
      simp only [pick, List.filterMap_cons, List.filterMap_nil, List.getElem?_cons_zero, List.getElem?_cons_succ, List.cons_append, List.nil_append] at h300
      subst r
      refine RetOk.mk (.agg h299 rfl (.cons 1 rfl .nil) FField.agg28 .nil) ?_
      exact ⟨rfl, h300⟩


set_option maxRecDepth 8000 in
set_option maxHeartbeats 1000000 in
theorem field_Elem_Square_ok {B : Nat} {w0 w : World} {L : List Rg} {al1 : Nat → BitVec 64} {r : (Nat → BitVec 64)} (hR : field_Elem_Square al1 r) (HST : St B w0 (L) w) :
    Calls Tryd.prog 18 #[AG [(5, fun q => VU .u64 (al1 q))]] w fun e w' => e = .returned (AG [(5, fun q => VU .u64 (r q))]) ∧ St B w0 (L) w' := by
  refine W.enter 6 Tryd.func18 rfl rfl rfl ?_
  unfold field_Elem_Square at hR
  refine W.seq_k fun K2 hK2 => ?_
  refine W.regionT [(0, false), (1, false)] (by kernel_rfl) ?_
  refine Plan.boxA HST rfl rfl PIn.nil fun b3 w3 hb3 h3 => ?_
  simp only [rngs, Nat.zero_add, Nat.reduceAdd, List.cons_append, List.nil_append] at h3
  refine Plan.alloc h3 rfl FField.z28 PIn.nil fun b4 w4 hb4 h4 => ?_
  simp only [rngs, Nat.zero_add, Nat.reduceAdd, List.cons_append, List.nil_append] at h4
  refine Plan.nil ?_
  refine hK2 _ _ ?_; clear hK2
  refine W.seq_k fun K5 hK5 => ?_
  refine W.regionT [(0, true), (1, true), (2, false), (3, false)] (by kernel_rfl) ?_
  refine Plan.loadA1 h4 1 rfl rfl rfl FField.agg28 ?_
  refine Plan.loadA1 h4 1 rfl rfl rfl FField.agg28 ?_
  obtain ⟨x_7, hr6, hR⟩ := hR
  refine Plan.call (vs := [AG [(5, fun q => VU .u64 (al1 q))], AG [(5, fun q => VU .u64 (al1 q))]]) rfl FField.call16 rfl (field_Elem_Mul_ok  hr6 h4) ?_
  rintro _ w8 ⟨rfl, h8⟩
  refine ⟨_, rfl, .inr ⟨rfl, ?_⟩⟩
  refine Plan.storeA (f' := fun q => VU .u64 (x_7 q)) h8 0 rfl rfl rfl rfl (fun _ _ => rfl) FField.sz28 rfl fun w9 h9 => ?_
  simp only [List.cons_append, List.nil_append, List.set_cons_zero, List.set_cons_succ] at h9
  refine Plan.nil ?_
  refine hK5 _ _ ?_; clear hK5
  refine W.ret (finR_ret ?_)
  have h10 := St.pickT (C := [_, _]) h9 [] (by decide)
  simp only [pick, List.filterMap_cons, List.filterMap_nil, List.getElem?_cons_zero, List.getElem?_cons_succ, List.cons_append, List.nil_append] at h10
  subst r
  refine RetOk.mk (.agg h9 rfl (.cons 0 rfl .nil) FField.agg28 .nil) ?_
  exact ⟨rfl, h10⟩


set_option maxRecDepth 8000 in
set_option maxHeartbeats 1000000 in
theorem field_exponent_ok {B : Nat} {w0 w : World} {L : List Rg} {first1 : BitVec 8} {last2 : BitVec 8} {r : (Nat → BitVec 8)} (hR : field_exponent first1 last2 r) (HST : St B w0 (L) w) :
    Calls Tryd.prog 37 #[VU .u8 first1, VU .u8 last2] w fun e w' => e = .returned (AG [(32, fun q => VU .u8 (r q))]) ∧ St B w0 (L) w' := by
  refine W.enter 18 Tryd.func37 rfl rfl rfl ?_
  unfold field_exponent at hR
  refine W.seq_k fun K3 hK3 => ?_
  refine W.regionT [(0, false)] (by kernel_rfl) ?_
  refine Plan.alloc HST rfl FField.z23 PIn.nil fun b4 w4 hb4 h4 => ?_
  simp only [rngs, Nat.zero_add, Nat.reduceAdd, List.cons_append, List.nil_append] at h4
  refine Plan.nil ?_
  refine hK3 _ _ ?_; clear hK3
  refine W.seq_k fun K5 hK5 => ?_
  refine W.regionT [(0, false)] (by kernel_rfl) ?_
  refine Plan.alloc h4 rfl FField.z23 PIn.nil fun b6 w6 hb6 h6 => ?_
  simp only [rngs, Nat.zero_add, Nat.reduceAdd, List.cons_append, List.nil_append] at h6
  refine Plan.nil ?_
  refine hK5 _ _ ?_; clear hK5
  refine W.seq_k fun K7 hK7 => ?_
  refine W.seq_k fun K8 hK8 => ?_
  refine W.regionT [(0, true)] (by kernel_rfl) ?_
  refine Plan.move_int rfl rfl ?_
  refine Plan.nil ?_
  refine hK8 _ _ ?_; clear hK8
  obtain ⟨m25, hI26, hR026⟩ := hR
  refine W.cutN (fun e w => ∃ y_m25 : Nat → BitVec 8, m25 = y_m25 ∧ EnvHas e [(0, VU .u8 first1), (1, VU .u8 last2), (4, .pointer (some ⟨b4, 0, none⟩)), (5, .pointer (some ⟨b6, 0, none⟩))] ∧ St B w0 (⟨some b6, 0, 32, fun q => VU .u8 (y_m25 q), true⟩ :: ⟨some b4, 0, 32, fun q => VU .u8 ((fun _ => 0#8) q), true⟩ :: L) w) ?_ ?_
  ·
    refine W.block ?_
    refine W.iter hI26 (fun (s26 : (Nat × (Nat → BitVec 8))) e w => EnvHas e [(0, VU .u8 first1), (1, VU .u8 last2), (4, .pointer (some ⟨b4, 0, none⟩)), (5, .pointer (some ⟨b6, 0, none⟩)), (7, VN s26.1)] ∧ St B w0 (⟨some b6, 0, 32, fun q => VU .u8 (s26.2 q), true⟩ :: ⟨some b4, 0, 32, fun q => VU .u8 ((fun _ => 0#8) q), true⟩ :: L) w) ⟨(EnvHas.cons rfl (EnvHas.cons rfl (EnvHas.cons rfl (EnvHas.cons rfl (EnvHas.cons rfl EnvHas.nil))))), h6⟩ ?_
    rintro ⟨t23, m24⟩ o26 hR hx26 ev27 wl27 ⟨he27, h27⟩
    obtain ⟨ev27, rfl⟩ := he27.open
    unfold field_exponent_l0 at hR
    refine W.seq_k fun K28 hK28 => ?_
    refine W.regionT [(0, true)] (by kernel_rfl) ?_
    refine Plan.cmpP (a := (((t23 : Nat) : Int) : Int)) (b := (32 : Int)) (p := t23 < 32) rfl rfl rfl rfl icmp_ltN ?_
    refine Plan.nil ?_
    refine hK28 _ _ ?_; clear hK28
    refine W.seq_k fun K29 hK29 => ?_
    by_cases hc30 : t23 < 32
    ·
      replace hR := ifT hR hc30
      refine W.condT (congrArg Value.bool (decide_eq_true hc30)) ?_
      refine W.skip ?_
      refine hK29 _ _ ?_; clear hK29
      refine W.seq_k fun K31 hK31 => ?_
      refine W.block ?_
      refine W.seq_k fun K32 hK32 => ?_
      refine W.regionT [(0, true), (1, true)] (by kernel_rfl) ?_
      refine Plan.move_int rfl rfl ?_
      refine Plan.assign_int rfl rfl ?_
      refine Plan.nil ?_
      refine hK32 _ _ ?_; clear hK32
      refine W.regionT [(0, true), (1, true), (2, false)] (by kernel_rfl) ?_
      refine Plan.move_int rfl rfl ?_
      refine Plan.idxArr1 (j := t23) FField.arr23 rfl rfl rfl (by omega) ?_
      refine Plan.storeU (j := t23) (X := 255#8) h27 0 rfl rfl rfl rfl (by omega) FField.sz5 rfl fun w33 h33 => ?_
      simp only [List.cons_append, List.nil_append, List.set_cons_zero, List.set_cons_succ] at h33
      refine Plan.nil ?_
      refine blockR_norm ?_
      refine hK31 _ _ ?_; clear hK31
      refine W.regionT [(0, true), (1, true)] (by kernel_rfl) ?_
      refine Plan.addN (a := t23) (b := 1) rfl rfl rfl (by omega) ?_
      refine Plan.move_int rfl rfl ?_
      refine Plan.nil ?_
      exact iterR_norm ⟨_, hR, (EnvHas.cons rfl (EnvHas.cons rfl (EnvHas.cons rfl (EnvHas.cons rfl (EnvHas.cons rfl EnvHas.nil))))), h33⟩
    ·
      replace hR := ifF hR hc30
      refine W.condF (congrArg Value.bool (decide_eq_false hc30)) ?_
      refine W.exit (thenR_exit (iterR_exit (blockR_here ?_)))
      exact ⟨m24, (hx26 _ hR).symm, (EnvHas.cons rfl (EnvHas.cons rfl (EnvHas.cons rfl (EnvHas.cons rfl EnvHas.nil)))), h27⟩
  ·
    rintro ev34 wl34 ⟨y_m25, hy34, he34, h34⟩
    obtain ⟨ev34, rfl⟩ := he34.open
    subst hy34
    replace hR := hR026
    refine hK7 _ _ ?_; clear hK7
    refine W.seq_k fun K35 hK35 => ?_
    refine W.regionT [(0, true), (1, true), (2, true), (3, false), (4, true), (5, false)] (by kernel_rfl) ?_
    refine Plan.move_int rfl rfl ?_
    refine Plan.move_int rfl rfl ?_
    refine Plan.idxArr1 (j := 0) FField.arr23 rfl rfl rfl (by omega) ?_
    refine Plan.storeU (j := 0) (X := first1) h34 0 rfl rfl rfl rfl (by omega) FField.sz5 rfl fun w36 h36 => ?_
    simp only [List.cons_append, List.nil_append, List.set_cons_zero, List.set_cons_succ] at h36
    refine Plan.idxArr1 (j := 31) FField.arr23 rfl rfl rfl (by omega) ?_
    refine Plan.storeU (j := 31) (X := last2) h36 0 rfl rfl rfl rfl (by omega) FField.sz5 rfl fun w37 h37 => ?_
    simp only [List.cons_append, List.nil_append, List.set_cons_zero, List.set_cons_succ] at h37
    refine Plan.nil ?_
    refine hK35 _ _ ?_; clear hK35
    refine W.seq_k fun K38 hK38 => ?_
    refine W.regionT [(0, true), (1, false)] (by kernel_rfl) ?_
    refine Plan.loadA1 h37 0 rfl rfl rfl FField.agg23 ?_
    refine Plan.storeA (f' := fun q => VU .u8 ((upd (upd m25 0 first1) 31 last2) q)) h37 1 rfl rfl rfl rfl (fun _ _ => rfl) FField.sz23 rfl fun w39 h39 => ?_
    simp only [List.cons_append, List.nil_append, List.set_cons_zero, List.set_cons_succ] at h39
    refine Plan.nil ?_
    refine hK38 _ _ ?_; clear hK38
    refine W.ret (finR_ret ?_)
    have h40 := St.pickT (C := [_, _]) h39 [] (by decide)
    simp only [pick, List.filterMap_cons, List.filterMap_nil, List.getElem?_cons_zero, List.getElem?_cons_succ, List.cons_append, List.nil_append] at h40
    subst r
    refine RetOk.mk (.agg h39 rfl (.cons 1 rfl .nil) FField.agg23 .nil) ?_
    exact ⟨rfl, h40⟩


set_option maxRecDepth 8000 in
set_option maxHeartbeats 1000000 in
theorem field_Small_ok {B : Nat} {w0 w : World} {L : List Rg} {n_1 : BitVec 32} {r : (Nat → BitVec 64)} (hR : field_Small n_1 r) (HST : St B w0 (L) w) :
    Calls Tryd.prog 13 #[VU .u32 n_1] w fun e w' => e = .returned (AG [(5, fun q => VU .u64 (r q))]) ∧ St B w0 (L) w' := by
  refine W.enter 7 Tryd.func13 rfl rfl rfl ?_
  unfold field_Small at hR
  refine W.seq_k fun K2 hK2 => ?_
  refine W.regionT [(0, false)] (by kernel_rfl) ?_
  refine Plan.alloc HST rfl FField.z28 PIn.nil fun b3 w3 hb3 h3 => ?_
  simp only [rngs, Nat.zero_add, Nat.reduceAdd, List.cons_append, List.nil_append] at h3
  refine Plan.nil ?_
  refine hK2 _ _ ?_; clear hK2
  refine W.seq_k fun K4 hK4 => ?_
  refine W.regionT [(0, true), (1, true), (2, true), (3, true), (4, false)] (by kernel_rfl) ?_
  refine Plan.move_int rfl rfl ?_
  refine Plan.convUU .u64 (X := n_1) FField.u24 FField.some31 rfl rfl ?_
  refine Plan.buildArr (ps := [(5, fun q => VU .u64 ((upd (fun _ => 0#64) 0 (n_1.setWidth 64)) q))]) FField.arr26 FField.z26 rfl rfl rfl ?_
  refine Plan.buildP (ps := [(5, fun q => VU .u64 ((upd (fun _ => 0#64) 0 (n_1.setWidth 64)) q))]) FField.pl28 (by decide) FField.z28 rfl rfl (.agg [] [(5, fun q => VU .u64 ((fun _ => 0#64) q))] [] [(5, fun q => VU .u64 ((upd (fun _ => 0#64) 0 (n_1.setWidth 64)) q))] rfl rfl .nil) ?_
  refine Plan.storeA (f' := fun q => VU .u64 ((upd (fun _ => 0#64) 0 (n_1.setWidth 64)) q)) h3 0 rfl rfl rfl rfl (fun _ _ => rfl) FField.sz28 rfl fun w5 h5 => ?_
  simp only [List.cons_append, List.nil_append, List.set_cons_zero, List.set_cons_succ] at h5
  refine Plan.nil ?_
  refine hK4 _ _ ?_; clear hK4
  refine W.ret (finR_ret ?_)
  have h6 := St.pickT (C := [_]) h5 [] (by decide)
  simp only [pick, List.filterMap_cons, List.filterMap_nil, List.getElem?_cons_zero, List.getElem?_cons_succ, List.cons_append, List.nil_append] at h6
  subst r
  refine RetOk.mk (.agg h5 rfl (.cons 0 rfl .nil) FField.agg28 .nil) ?_
  exact ⟨rfl, h6⟩


set_option maxRecDepth 8000 in
set_option maxHeartbeats 1000000 in
theorem field_Elem_Pow_ok {B : Nat} {w0 w : World} {L : List Rg} {al1 : Nat → BitVec 64} {n_2 : Nat → BitVec 8} {r : (Nat → BitVec 64)} (hR : field_Elem_Pow al1 n_2 r) (HST : St B w0 (L) w) :
    Calls Tryd.prog 36 #[AG [(5, fun q => VU .u64 (al1 q))], AG [(32, fun q => VU .u8 (n_2 q))]] w fun e w' => e = .returned (AG [(5, fun q => VU .u64 (r q))]) ∧ St B w0 (L) w' := by
  refine W.enter 27 Tryd.func36 rfl rfl rfl ?_
  unfold field_Elem_Pow at hR
  refine W.seq_k fun K3 hK3 => ?_
  refine W.regionT [(0, false), (1, false), (2, false)] (by kernel_rfl) ?_
  refine Plan.boxA HST rfl rfl PIn.nil fun b4 w4 hb4 h4 => ?_
  simp only [rngs, Nat.zero_add, Nat.reduceAdd, List.cons_append, List.nil_append] at h4
  refine Plan.boxA h4 rfl rfl PIn.nil fun b5 w5 hb5 h5 => ?_
  simp only [rngs, Nat.zero_add, Nat.reduceAdd, List.cons_append, List.nil_append] at h5
  refine Plan.alloc h5 rfl FField.z28 PIn.nil fun b6 w6 hb6 h6 => ?_
  simp only [rngs, Nat.zero_add, Nat.reduceAdd, List.cons_append, List.nil_append] at h6
  refine Plan.nil ?_
  refine hK3 _ _ ?_; clear hK3
  refine W.seq_k fun K7 hK7 => ?_
  refine W.regionT [(0, false), (1, false), (2, false)] (by kernel_rfl) ?_
  obtain ⟨x_9, hr8, hR⟩ := hR
  refine Plan.call (vs := [VU .u32 (1#32)]) rfl FField.call13 rfl (field_Small_ok  hr8 h6) ?_
  rintro _ w10 ⟨rfl, h10⟩
  refine ⟨_, rfl, .inl ⟨PIn.keep PIn.nil h10, ?_⟩⟩
  refine Plan.alloc h10 rfl FField.z28 PIn.nil fun b11 w11 hb11 h11 => ?_
  simp only [rngs, Nat.zero_add, Nat.reduceAdd, List.cons_append, List.nil_append] at h11
  refine Plan.storeA (f' := fun q => VU .u64 (x_9 q)) h11 0 rfl rfl rfl rfl (fun _ _ => rfl) FField.sz28 rfl fun w12 h12 => ?_
  simp only [List.cons_append, List.nil_append, List.set_cons_zero, List.set_cons_succ] at h12
  refine Plan.nil ?_
  refine hK7 _ _ ?_; clear hK7
  refine W.seq_k fun K13 hK13 => ?_
  refine W.seq_k fun K14 hK14 => ?_
  refine W.regionT [(0, true)] (by kernel_rfl) ?_
  refine Plan.assign_int rfl rfl ?_
  refine Plan.nil ?_
  refine hK14 _ _ ?_; clear hK14
  obtain ⟨m76, hI77, hR077⟩ := hR
  refine W.cutN (fun e w => ∃ y_m76 : Nat → BitVec 64, m76 = y_m76 ∧ EnvHas e [(4, .pointer (some ⟨b6, 0, none⟩)), (5, .pointer (some ⟨b11, 0, none⟩))] ∧ St B w0 (⟨some b11, 0, 5, fun q => VU .u64 (y_m76 q), true⟩ :: ⟨some b6, 0, 5, fun q => VU .u64 ((fun _ => 0#64) q), true⟩ :: L) w) ?_ ?_
  ·
    refine W.block ?_
    refine W.iter hI77 (fun (s77 : (Int × (Nat → BitVec 64))) e w => EnvHas e [(2, .pointer (some ⟨b4, 0, none⟩)), (3, .pointer (some ⟨b5, 0, none⟩)), (4, .pointer (some ⟨b6, 0, none⟩)), (5, .pointer (some ⟨b11, 0, none⟩)), (6, .int .i64 s77.1)] ∧ St B w0 (⟨some b11, 0, 5, fun q => VU .u64 (s77.2 q), true⟩ :: ⟨some b6, 0, 5, fun q => VU .u64 ((fun _ => 0#64) q), true⟩ :: ⟨some b5, 0, 32, fun q => VU .u8 (n_2 q), true⟩ :: ⟨some b4, 0, 5, fun q => VU .u64 (al1 q), true⟩ :: L) w) ⟨(EnvHas.cons rfl (EnvHas.cons rfl (EnvHas.cons rfl (EnvHas.cons rfl (EnvHas.cons rfl EnvHas.nil))))), h12⟩ ?_
    rintro ⟨bit74, m75⟩ o77 hR hx77 ev78 wl78 ⟨he78, h78⟩
    obtain ⟨ev78, rfl⟩ := he78.open
    unfold field_Elem_Pow_l0 at hR
    refine W.seq_k fun K79 hK79 => ?_
    refine W.seq_k fun K80 hK80 => ?_
    refine W.regionT [(0, true), (1, true)] (by kernel_rfl) ?_
    refine Plan.move_int rfl rfl ?_
    refine Plan.cmpP (a := (bit74 : Int)) (b := (0 : Int)) (p := 0 ≤ bit74) rfl rfl rfl rfl icmp_ge ?_
    refine Plan.nil ?_
    refine hK80 _ _ ?_; clear hK80
    by_cases hc81 : 0 ≤ bit74
    ·
      replace hR := ifT hR hc81
      refine W.condT (congrArg Value.bool (decide_eq_true hc81)) ?_
      refine W.skip ?_
      refine hK79 _ _ ?_; clear hK79
      refine W.seq_k fun K82 hK82 => ?_
      refine W.block ?_
      refine W.seq_k fun K83 hK83 => ?_
      refine W.regionT [(0, true), (1, false), (2, false)] (by kernel_rfl) ?_
      refine Plan.loadA1 h78 0 rfl rfl rfl FField.agg28 ?_
      obtain ⟨x_85, hr84, hR⟩ := hR
      refine Plan.call (vs := [AG [(5, fun q => VU .u64 (m75 q))]]) rfl FField.call18 rfl (field_Elem_Square_ok  hr84 h78) ?_
      rintro _ w86 ⟨rfl, h86⟩
      refine ⟨_, rfl, .inr ⟨rfl, ?_⟩⟩
      refine Plan.storeA (f' := fun q => VU .u64 (x_85 q)) h86 0 rfl rfl rfl rfl (fun _ _ => rfl) FField.sz28 rfl fun w87 h87 => ?_
      simp only [List.cons_append, List.nil_append, List.set_cons_zero, List.set_cons_succ] at h87
      refine Plan.nil ?_
      refine hK83 _ _ ?_; clear hK83
      refine W.seq_k fun K88 hK88 => ?_
      refine W.regionT [(0, true), (1, true), (2, true), (3, true), (4, true), (5, true), (6, true), (7, true), (8, true)] (by kernel_rfl) ?_
      refine Plan.move_int rfl rfl ?_
      obtain ⟨hc89, hR⟩ := hR
      refine Plan.quoIw (a := bit74) (b := 8) rfl rfl rfl (by omega) hc89 ?_
      obtain ⟨hc90, hR⟩ := hR
      refine Plan.idxArr1 (j := (bit74.tdiv 8).toNat) FField.arr23 rfl rfl (congrArg (Value.int .i64) (Int.toNat_of_nonneg hc90.1).symm) (by omega) ?_
      refine Plan.load1 (j := (bit74.tdiv 8).toNat) h87 2 rfl rfl rfl (by omega) FField.sc5 ?_
      refine Plan.move_int rfl rfl ?_
      have hb91 := tmod_bd bit74 (c := 8) (by decide)
      refine Plan.remI (a := bit74) (b := 8) rfl rfl rfl (by omega) ?_
      obtain ⟨hc92, hR⟩ := hR
      refine Plan.shrU .u8 (X := (n_2 ((bit74.tdiv 8).toNat))) (c := (bit74.tmod 8).toNat) rfl rfl (congrArg (Value.int .i64) (Int.toNat_of_nonneg hc92).symm) ?_
      refine Plan.andU .u8 (X := ((n_2 ((bit74.tdiv 8).toNat)) >>> ((bit74.tmod 8).toNat))) (Y := 1#8) rfl rfl rfl ?_
      refine Plan.cmpP (a := ((((n_2 ((bit74.tdiv 8).toNat)) >>> ((bit74.tmod 8).toNat)) &&& (1#8)).toNat : Int)) (b := ((1#8).toNat : Int)) (p := (((n_2 ((bit74.tdiv 8).toNat)) >>> ((bit74.tmod 8).toNat)) &&& (1#8)) = 1#8) rfl rfl rfl rfl icmp_eqU ?_
      refine Plan.nil ?_
      refine hK88 _ _ ?_; clear hK88
      by_cases hc93 : (((n_2 ((bit74.tdiv 8).toNat)) >>> ((bit74.tmod 8).toNat)) &&& (1#8)) = 1#8
      ·
        replace hR := ifT hR hc93
        refine W.condT (congrArg Value.bool (decide_eq_true hc93)) ?_
        refine W.regionT [(0, true), (1, true), (2, false), (3, false)] (by kernel_rfl) ?_
        refine Plan.loadA1 h87 0 rfl rfl rfl FField.agg28 ?_
        refine Plan.loadA1 h87 3 rfl rfl rfl FField.agg28 ?_
        obtain ⟨x_95, hr94, hR⟩ := hR
        refine Plan.call (vs := [AG [(5, fun q => VU .u64 (x_85 q))], AG [(5, fun q => VU .u64 (al1 q))]]) rfl FField.call16 rfl (field_Elem_Mul_ok  hr94 h87) ?_
        rintro _ w96 ⟨rfl, h96⟩
        refine ⟨_, rfl, .inr ⟨rfl, ?_⟩⟩
        refine Plan.storeA (f' := fun q => VU .u64 (x_95 q)) h96 0 rfl rfl rfl rfl (fun _ _ => rfl) FField.sz28 rfl fun w97 h97 => ?_
        simp only [List.cons_append, List.nil_append, List.set_cons_zero, List.set_cons_succ] at h97
        refine Plan.nil ?_
        refine blockR_norm ?_
        refine hK82 _ _ ?_; clear hK82
        refine W.regionT [(0, true), (1, true), (2, true)] (by kernel_rfl) ?_
        refine Plan.move_int rfl rfl ?_
        obtain ⟨hc98, hR⟩ := hR
        refine Plan.subI (a := bit74) (b := 1) rfl rfl rfl (by omega) ?_
        refine Plan.assign_int rfl rfl ?_
        refine Plan.nil ?_
        exact iterR_norm ⟨_, hR, (EnvHas.cons rfl (EnvHas.cons rfl (EnvHas.cons rfl (EnvHas.cons rfl (EnvHas.cons rfl EnvHas.nil))))), h97⟩
      ·
        replace hR := ifF hR hc93
        refine W.condF (congrArg Value.bool (decide_eq_false hc93)) ?_
        refine W.skip ?_
        refine blockR_norm ?_
        refine hK82 _ _ ?_; clear hK82
        refine W.regionT [(0, true), (1, true), (2, true)] (by kernel_rfl) ?_
        refine Plan.move_int rfl rfl ?_
        obtain ⟨hc99, hR⟩ := hR
        refine Plan.subI (a := bit74) (b := 1) rfl rfl rfl (by omega) ?_
        refine Plan.assign_int rfl rfl ?_
        refine Plan.nil ?_
        exact iterR_norm ⟨_, hR, (EnvHas.cons rfl (EnvHas.cons rfl (EnvHas.cons rfl (EnvHas.cons rfl (EnvHas.cons rfl EnvHas.nil))))), h87⟩
    ·
      replace hR := ifF hR hc81
      refine W.condF (congrArg Value.bool (decide_eq_false hc81)) ?_
      refine W.exit (thenR_exit (iterR_exit (blockR_here ?_)))
      have h100 := St.pickT (C := [_, _, _, _]) h78 [0, 1] (by decide)
      simp only [pick, List.filterMap_cons, List.filterMap_nil, List.getElem?_cons_zero, List.getElem?_cons_succ, List.cons_append, List.nil_append] at h100
      exact ⟨m75, (hx77 _ hR).symm, (EnvHas.cons rfl (EnvHas.cons rfl EnvHas.nil)), h100⟩
  ·
    rintro ev101 wl101 ⟨y_m76, hy101, he101, h101⟩
    obtain ⟨ev101, rfl⟩ := he101.open
    subst hy101
    replace hR := hR077
    refine hK13 _ _ ?_; clear hK13
    refine W.seq_k fun K102 hK102 => ?_
    refine W.regionT [(0, true), (1, false)] (by kernel_rfl) ?_
    refine Plan.loadA1 h101 0 rfl rfl rfl FField.agg28 ?_
    refine Plan.storeA (f' := fun q => VU .u64 (m76 q)) h101 1 rfl rfl rfl rfl (fun _ _ => rfl) FField.sz28 rfl fun w103 h103 => ?_
    simp only [List.cons_append, List.nil_append, List.set_cons_zero, List.set_cons_succ] at h103
    refine Plan.nil ?_
    refine hK102 _ _ ?_; clear hK102
    refine W.ret (finR_ret ?_)
    have h104 := St.pickT (C := [_, _]) h103 [] (by decide)
    simp only [pick, List.filterMap_cons, List.filterMap_nil, List.getElem?_cons_zero, List.getElem?_cons_succ, List.cons_append, List.nil_append] at h104
    subst r
    refine RetOk.mk (.agg h103 rfl (.cons 1 rfl .nil) FField.agg28 .nil) ?_
    exact ⟨rfl, h104⟩


set_option maxRecDepth 8000 in
set_option maxHeartbeats 1000000 in
theorem field_Elem_Bytes_ok {B : Nat} {w0 w : World} {L : List Rg} {al1 : Nat → BitVec 64} {r : (Nat → BitVec 8)} (hR : field_Elem_Bytes al1 r) (HST : St B w0 (L) w) :
    Calls Tryd.prog 19 #[AG [(5, fun q => VU .u64 (al1 q))]] w fun e w' => e = .returned (AG [(32, fun q => VU .u8 (r q))]) ∧ St B w0 (L) w' := by
  refine W.enter 79 Tryd.func19 rfl rfl rfl ?_
  unfold field_Elem_Bytes at hR
  refine W.seq_k fun K2 hK2 => ?_
  refine W.regionT [(0, false), (1, false)] (by kernel_rfl) ?_
  refine Plan.boxA HST rfl rfl PIn.nil fun b3 w3 hb3 h3 => ?_
  simp only [rngs, Nat.zero_add, Nat.reduceAdd, List.cons_append, List.nil_append] at h3
  refine Plan.alloc h3 rfl FField.z23 PIn.nil fun b4 w4 hb4 h4 => ?_
  simp only [rngs, Nat.zero_add, Nat.reduceAdd, List.cons_append, List.nil_append] at h4
  refine Plan.nil ?_
  refine hK2 _ _ ?_; clear hK2
  refine W.seq_k fun K5 hK5 => ?_
  refine W.regionT [(0, true), (1, true), (2, false), (3, false), (4, false), (5, false)] (by kernel_rfl) ?_
  refine Plan.fieldAddr0 FField.fld28_0 rfl rfl ?_
  refine Plan.loadA1 h4 1 rfl rfl rfl FField.agg26 ?_
  obtain ⟨x_7, hr6, hR⟩ := hR
  refine Plan.call (vs := [AG [(5, fun q => VU .u64 (al1 q))]]) rfl FField.call33 rfl (field_limbs_carried_ok  hr6 h4) ?_
  rintro _ w8 ⟨rfl, h8⟩
  refine ⟨_, rfl, .inr ⟨rfl, ?_⟩⟩
  obtain ⟨x_10, hr9, hR⟩ := hR
  refine Plan.call (vs := [AG [(5, fun q => VU .u64 (x_7 q))]]) rfl FField.call33 rfl (field_limbs_carried_ok  hr9 h8) ?_
  rintro _ w11 ⟨rfl, h11⟩
  refine ⟨_, rfl, .inl ⟨PIn.keep PIn.nil h11, ?_⟩⟩
  refine Plan.alloc h11 rfl FField.z26 PIn.nil fun b12 w12 hb12 h12 => ?_
  simp only [rngs, Nat.zero_add, Nat.reduceAdd, List.cons_append, List.nil_append] at h12
  refine Plan.storeA (f' := fun q => VU .u64 (x_10 q)) h12 0 rfl rfl rfl rfl (fun _ _ => rfl) FField.sz26 rfl fun w13 h13 => ?_
  simp only [List.cons_append, List.nil_append, List.set_cons_zero, List.set_cons_succ] at h13
  refine Plan.nil ?_
  refine hK5 _ _ ?_; clear hK5
  refine W.seq_k fun K14 hK14 => ?_
  refine W.regionT [(0, true), (1, true), (2, true), (3, true), (4, true)] (by kernel_rfl) ?_
  refine Plan.idxArr1 (j := 0) FField.arr26 rfl rfl rfl (by omega) ?_
  refine Plan.load1 (j := 0) h13 0 rfl rfl rfl (by omega) FField.sc24 ?_
  refine Plan.addU .u64 (X := (x_10 0)) (Y := 19#64) rfl rfl rfl ?_
  refine Plan.shrU .u64 (X := ((x_10 0) + (19#64))) (c := 51) rfl rfl rfl ?_
  refine Plan.assign_int rfl rfl ?_
  refine Plan.nil ?_
  refine hK14 _ _ ?_; clear hK14
  refine W.seq_k fun K15 hK15 => ?_
  refine W.seq_k fun K16 hK16 => ?_
  refine W.regionT [(0, true)] (by kernel_rfl) ?_
  refine Plan.assign_int rfl rfl ?_
  refine Plan.nil ?_
  refine hK16 _ _ ?_; clear hK16
  obtain ⟨q_29, hI30, hR030⟩ := hR
  refine W.cutN (fun e w => ∃ y_q_29 : BitVec 64, q_29 = y_q_29 ∧ EnvHas e [(2, .pointer (some ⟨b4, 0, none⟩)), (3, .pointer (some ⟨b12, 0, none⟩)), (4, VU .u64 y_q_29)] ∧ St B w0 (⟨some b12, 0, 5, fun q => VU .u64 (x_10 q), true⟩ :: ⟨some b4, 0, 32, fun q => VU .u8 ((fun _ => 0#8) q), true⟩ :: L) w) ?_ ?_
  ·
    refine W.block ?_
    have h31 := St.pickT (C := [_, _, _]) h13 [0, 1] (by decide)
    simp only [pick, List.filterMap_cons, List.filterMap_nil, List.getElem?_cons_zero, List.getElem?_cons_succ, List.cons_append, List.nil_append] at h31
    refine W.iter hI30 (fun (s30 : ((BitVec 64) × Nat)) e w => EnvHas e [(2, .pointer (some ⟨b4, 0, none⟩)), (3, .pointer (some ⟨b12, 0, none⟩)), (4, VU .u64 s30.1), (5, VN s30.2)] ∧ St B w0 (⟨some b12, 0, 5, fun q => VU .u64 (x_10 q), true⟩ :: ⟨some b4, 0, 32, fun q => VU .u8 ((fun _ => 0#8) q), true⟩ :: L) w) ⟨(EnvHas.cons rfl (EnvHas.cons rfl (EnvHas.cons rfl (EnvHas.cons rfl EnvHas.nil)))), h31⟩ ?_
    rintro ⟨q_27, i_28⟩ o30 hR hx30 ev32 wl32 ⟨he32, h32⟩
    obtain ⟨ev32, rfl⟩ := he32.open
    unfold field_Elem_Bytes_l0 at hR
    refine W.seq_k fun K33 hK33 => ?_
    refine W.seq_k fun K34 hK34 => ?_
    refine W.regionT [(0, true), (1, true)] (by kernel_rfl) ?_
    refine Plan.move_int rfl rfl ?_
    refine Plan.cmpP (a := (((i_28 : Nat) : Int) : Int)) (b := (5 : Int)) (p := i_28 < 5) rfl rfl rfl rfl icmp_ltN ?_
    refine Plan.nil ?_
    refine hK34 _ _ ?_; clear hK34
    by_cases hc35 : i_28 < 5
    ·
      replace hR := ifT hR hc35
      refine W.condT (congrArg Value.bool (decide_eq_true hc35)) ?_
      refine W.skip ?_
      refine hK33 _ _ ?_; clear hK33
      refine W.seq_k fun K36 hK36 => ?_
      refine W.block ?_
      refine W.regionT [(0, true), (1, true), (2, true), (3, true), (4, true), (5, true), (6, true)] (by kernel_rfl) ?_
      refine Plan.move_int rfl rfl ?_
      refine Plan.idxArr1 (j := i_28) FField.arr26 rfl rfl rfl (by omega) ?_
      refine Plan.load1 (j := i_28) h32 0 rfl rfl rfl (by omega) FField.sc24 ?_
      refine Plan.move_int rfl rfl ?_
      refine Plan.addU .u64 (X := (x_10 i_28)) (Y := q_27) rfl rfl rfl ?_
      refine Plan.shrU .u64 (X := ((x_10 i_28) + q_27)) (c := 51) rfl rfl rfl ?_
      refine Plan.assign_int rfl rfl ?_
      refine Plan.nil ?_
      refine blockR_norm ?_
      refine hK36 _ _ ?_; clear hK36
      refine W.regionT [(0, true), (1, true), (2, true)] (by kernel_rfl) ?_
      refine Plan.move_int rfl rfl ?_
      refine Plan.addN (a := i_28) (b := 1) rfl rfl rfl (by omega) ?_
      refine Plan.assign_int rfl rfl ?_
      refine Plan.nil ?_
      exact iterR_norm ⟨_, hR, (EnvHas.cons rfl (EnvHas.cons rfl (EnvHas.cons rfl (EnvHas.cons rfl EnvHas.nil)))), h32⟩
    ·
      replace hR := ifF hR hc35
      refine W.condF (congrArg Value.bool (decide_eq_false hc35)) ?_
      refine W.exit (thenR_exit (iterR_exit (blockR_here ?_)))
      exact ⟨q_27, (hx30 _ hR).symm, (EnvHas.cons rfl (EnvHas.cons rfl (EnvHas.cons rfl EnvHas.nil))), h32⟩
  ·
    rintro ev37 wl37 ⟨y_q_29, hy37, he37, h37⟩
    obtain ⟨ev37, rfl⟩ := he37.open
    subst hy37
    replace hR := hR030
    refine hK15 _ _ ?_; clear hK15
    refine W.seq_k fun K38 hK38 => ?_
    refine W.regionT [(0, true), (1, true), (2, true), (3, true), (4, true), (5, true), (6, false)] (by kernel_rfl) ?_
    refine Plan.idxArr1 (j := 0) FField.arr26 rfl rfl rfl (by omega) ?_
    refine Plan.load1 (j := 0) h37 0 rfl rfl rfl (by omega) FField.sc24 ?_
    refine Plan.move_int rfl rfl ?_
    refine Plan.mulU .u64 (X := 19#64) (Y := q_29) rfl rfl rfl ?_
    refine Plan.addU .u64 (X := (x_10 0)) (Y := ((19#64) * q_29)) rfl rfl rfl ?_
    refine Plan.idxArr1 (j := 0) FField.arr26 rfl rfl rfl (by omega) ?_
    refine Plan.storeU (j := 0) (X := ((x_10 0) + ((19#64) * q_29))) h37 0 rfl rfl rfl rfl (by omega) FField.sz24 rfl fun w39 h39 => ?_
    simp only [List.cons_append, List.nil_append, List.set_cons_zero, List.set_cons_succ] at h39
    refine Plan.nil ?_
    refine hK38 _ _ ?_; clear hK38
    refine W.seq_k fun K40 hK40 => ?_
    refine W.seq_k fun K41 hK41 => ?_
    refine W.regionT [(0, true)] (by kernel_rfl) ?_
    refine Plan.move_int rfl rfl ?_
    refine Plan.nil ?_
    refine hK41 _ _ ?_; clear hK41
    obtain ⟨m64, hI65, hR065⟩ := hR
    refine W.cutN (fun e w => ∃ y_m64 : Nat → BitVec 64, m64 = y_m64 ∧ EnvHas e [(2, .pointer (some ⟨b4, 0, none⟩)), (3, .pointer (some ⟨b12, 0, none⟩))] ∧ St B w0 (⟨some b12, 0, 5, fun q => VU .u64 (y_m64 q), true⟩ :: ⟨some b4, 0, 32, fun q => VU .u8 ((fun _ => 0#8) q), true⟩ :: L) w) ?_ ?_
    ·
      refine W.block ?_
      refine W.iter hI65 (fun (s65 : (Nat × (Nat → BitVec 64))) e w => EnvHas e [(2, .pointer (some ⟨b4, 0, none⟩)), (3, .pointer (some ⟨b12, 0, none⟩)), (33, VN s65.1)] ∧ St B w0 (⟨some b12, 0, 5, fun q => VU .u64 (s65.2 q), true⟩ :: ⟨some b4, 0, 32, fun q => VU .u8 ((fun _ => 0#8) q), true⟩ :: L) w) ⟨(EnvHas.cons rfl (EnvHas.cons rfl (EnvHas.cons rfl EnvHas.nil))), h39⟩ ?_
      rintro ⟨t62, m63⟩ o65 hR hx65 ev66 wl66 ⟨he66, h66⟩
      obtain ⟨ev66, rfl⟩ := he66.open
      unfold field_Elem_Bytes_l1 at hR
      refine W.seq_k fun K67 hK67 => ?_
      refine W.regionT [(0, true)] (by kernel_rfl) ?_
      refine Plan.cmpP (a := (((t62 : Nat) : Int) : Int)) (b := (4 : Int)) (p := t62 < 4) rfl rfl rfl rfl icmp_ltN ?_
      refine Plan.nil ?_
      refine hK67 _ _ ?_; clear hK67
      refine W.seq_k fun K68 hK68 => ?_
      by_cases hc69 : t62 < 4
      ·
        replace hR := ifT hR hc69
        refine W.condT (congrArg Value.bool (decide_eq_true hc69)) ?_
        refine W.skip ?_
        refine hK68 _ _ ?_; clear hK68
        refine W.seq_k fun K70 hK70 => ?_
        refine W.block ?_
        refine W.seq_k fun K71 hK71 => ?_
        refine W.regionT [(0, true), (1, true)] (by kernel_rfl) ?_
        refine Plan.move_int rfl rfl ?_
        refine Plan.assign_int rfl rfl ?_
        refine Plan.nil ?_
        refine hK71 _ _ ?_; clear hK71
        refine W.seq_k fun K72 hK72 => ?_
        refine W.regionD FField.mixed [(0, true), (1, true), (2, true), (3, true), (4, true), (5, true), (6, true), (7, true), (8, true), (9, true), (10, false)] (by kernel_rfl) ?_
        have h73 := h66.drew
        refine Plan.move_int rfl rfl ?_
        refine Plan.addN (a := t62) (b := 1) rfl rfl rfl (by omega) ?_
        refine Plan.idxArr1 (j := (t62 + 1)) FField.arr26 rfl rfl rfl (by omega) ?_
        refine Plan.load1 (j := (t62 + 1)) h73 0 rfl rfl rfl (by omega) FField.sc24 ?_
        refine Plan.move_int rfl rfl ?_
        refine Plan.idxArr1 (j := t62) FField.arr26 rfl rfl rfl (by omega) ?_
        refine Plan.load1 (j := t62) h73 0 rfl rfl rfl (by omega) FField.sc24 ?_
        refine Plan.shrU .u64 (X := (m63 t62)) (c := 51) rfl rfl rfl ?_
        refine Plan.addU .u64 (X := (m63 (t62 + 1))) (Y := ((m63 t62) >>> 51)) rfl rfl rfl ?_
        refine Plan.idxArr1 (j := (t62 + 1)) FField.arr26 rfl rfl rfl (by omega) ?_
        refine Plan.storeU (j := (t62 + 1)) (X := ((m63 (t62 + 1)) + ((m63 t62) >>> 51))) h73 0 rfl rfl rfl rfl (by omega) FField.sz24 rfl fun w74 h74 => ?_
        simp only [List.cons_append, List.nil_append, List.set_cons_zero, List.set_cons_succ] at h74
        refine Plan.nil ?_
        refine hK72 _ _ ?_; clear hK72
        refine W.regionT [(0, true), (1, true), (2, true), (3, true), (4, true), (5, false)] (by kernel_rfl) ?_
        refine Plan.move_int rfl rfl ?_
        refine Plan.idxArr1 (j := t62) FField.arr26 rfl rfl rfl (by omega) ?_
        refine Plan.load1 (j := t62) h74 0 rfl rfl rfl (by omega) FField.sc24 ?_
        refine Plan.andU .u64 (X := ((upd m63 (t62 + 1) ((m63 (t62 + 1)) + ((m63 t62) >>> 51))) t62)) (Y := 2251799813685247#64) rfl rfl rfl ?_
        refine Plan.idxArr1 (j := t62) FField.arr26 rfl rfl rfl (by omega) ?_
        refine Plan.storeU (j := t62) (X := (((upd m63 (t62 + 1) ((m63 (t62 + 1)) + ((m63 t62) >>> 51))) t62) &&& (2251799813685247#64))) h74 0 rfl rfl rfl rfl (by omega) FField.sz24 rfl fun w75 h75 => ?_
        simp only [List.cons_append, List.nil_append, List.set_cons_zero, List.set_cons_succ] at h75
        refine Plan.nil ?_
        refine blockR_norm ?_
        refine hK70 _ _ ?_; clear hK70
        refine W.regionT [(0, true), (1, true)] (by kernel_rfl) ?_
        refine Plan.addN (a := t62) (b := 1) rfl rfl rfl (by omega) ?_
        refine Plan.move_int rfl rfl ?_
        refine Plan.nil ?_
        exact iterR_norm ⟨_, hR, (EnvHas.cons rfl (EnvHas.cons rfl (EnvHas.cons rfl EnvHas.nil))), h75⟩
      ·
        replace hR := ifF hR hc69
        refine W.condF (congrArg Value.bool (decide_eq_false hc69)) ?_
        refine W.exit (thenR_exit (iterR_exit (blockR_here ?_)))
        exact ⟨m63, (hx65 _ hR).symm, (EnvHas.cons rfl (EnvHas.cons rfl EnvHas.nil)), h66⟩
    ·
      rintro ev76 wl76 ⟨y_m64, hy76, he76, h76⟩
      obtain ⟨ev76, rfl⟩ := he76.open
      subst hy76
      replace hR := hR065
      refine hK40 _ _ ?_; clear hK40
      refine W.seq_k fun K77 hK77 => ?_
      refine W.regionT [(0, true), (1, true), (2, true), (3, true), (4, false)] (by kernel_rfl) ?_
      refine Plan.idxArr1 (j := 4) FField.arr26 rfl rfl rfl (by omega) ?_
      refine Plan.load1 (j := 4) h76 0 rfl rfl rfl (by omega) FField.sc24 ?_
      refine Plan.andU .u64 (X := (m64 4)) (Y := 2251799813685247#64) rfl rfl rfl ?_
      refine Plan.idxArr1 (j := 4) FField.arr26 rfl rfl rfl (by omega) ?_
      refine Plan.storeU (j := 4) (X := ((m64 4) &&& (2251799813685247#64))) h76 0 rfl rfl rfl rfl (by omega) FField.sz24 rfl fun w78 h78 => ?_
      simp only [List.cons_append, List.nil_append, List.set_cons_zero, List.set_cons_succ] at h78
      refine Plan.nil ?_
      refine hK77 _ _ ?_; clear hK77
      refine W.seq_k fun K79 hK79 => ?_
      refine W.regionT [(0, false)] (by kernel_rfl) ?_
      refine Plan.alloc h78 rfl FField.z23 PIn.nil fun b80 w80 hb80 h80 => ?_
      simp only [rngs, Nat.zero_add, Nat.reduceAdd, List.cons_append, List.nil_append] at h80
      refine Plan.nil ?_
      refine hK79 _ _ ?_; clear hK79
      refine W.seq_k fun K81 hK81 => ?_
      refine W.seq_k fun K82 hK82 => ?_
      refine W.regionT [(0, true)] (by kernel_rfl) ?_
      refine Plan.move_int rfl rfl ?_
      refine Plan.nil ?_
      refine hK82 _ _ ?_; clear hK82
      obtain ⟨m101, hI102, hR0102⟩ := hR
      refine W.cutN (fun e w => ∃ y_m101 : Nat → BitVec 8, m101 = y_m101 ∧ EnvHas e [(2, .pointer (some ⟨b4, 0, none⟩)), (7, .pointer (some ⟨b80, 0, none⟩))] ∧ St B w0 (⟨some b80, 0, 32, fun q => VU .u8 (y_m101 q), true⟩ :: ⟨some b4, 0, 32, fun q => VU .u8 ((fun _ => 0#8) q), true⟩ :: L) w) ?_ ?_
      ·
        refine W.block ?_
        refine W.iter hI102 (fun (s102 : (Nat × (Nat → BitVec 8))) e w => EnvHas e [(2, .pointer (some ⟨b4, 0, none⟩)), (3, .pointer (some ⟨b12, 0, none⟩)), (7, .pointer (some ⟨b80, 0, none⟩)), (56, VN s102.1)] ∧ St B w0 (⟨some b80, 0, 32, fun q => VU .u8 (s102.2 q), true⟩ :: ⟨some b12, 0, 5, fun q => VU .u64 ((upd m64 4 ((m64 4) &&& (2251799813685247#64))) q), true⟩ :: ⟨some b4, 0, 32, fun q => VU .u8 ((fun _ => 0#8) q), true⟩ :: L) w) ⟨(EnvHas.cons rfl (EnvHas.cons rfl (EnvHas.cons rfl (EnvHas.cons rfl EnvHas.nil)))), h80⟩ ?_
        rintro ⟨t99, m100⟩ o102 hR hx102 ev103 wl103 ⟨he103, h103⟩
        obtain ⟨ev103, rfl⟩ := he103.open
        unfold field_Elem_Bytes_l2 at hR
        refine W.seq_k fun K104 hK104 => ?_
        refine W.regionT [(0, true)] (by kernel_rfl) ?_
        refine Plan.cmpP (a := (((t99 : Nat) : Int) : Int)) (b := (255 : Int)) (p := t99 < 255) rfl rfl rfl rfl icmp_ltN ?_
        refine Plan.nil ?_
        refine hK104 _ _ ?_; clear hK104
        refine W.seq_k fun K105 hK105 => ?_
        by_cases hc106 : t99 < 255
        ·
          replace hR := ifT hR hc106
          refine W.condT (congrArg Value.bool (decide_eq_true hc106)) ?_
          refine W.skip ?_
          refine hK105 _ _ ?_; clear hK105
          refine W.seq_k fun K107 hK107 => ?_
          refine W.block ?_
          refine W.seq_k fun K108 hK108 => ?_
          refine W.regionT [(0, true), (1, true)] (by kernel_rfl) ?_
          refine Plan.move_int rfl rfl ?_
          refine Plan.assign_int rfl rfl ?_
          refine Plan.nil ?_
          refine hK108 _ _ ?_; clear hK108
          refine W.regionD FField.mixed [(0, true), (1, true), (2, true), (3, true), (4, true), (5, true), (6, true), (7, true), (8, true), (9, true), (10, true), (11, true), (12, true), (13, true), (14, true), (15, true), (16, true), (17, true), (18, false)] (by kernel_rfl) ?_
          have h109 := h103.drew
          refine Plan.move_int rfl rfl ?_
          refine Plan.quoN (a := t99) (b := 8) rfl rfl rfl (by omega) ?_
          refine Plan.idxArr1 (j := (t99 / 8)) FField.arr23 rfl rfl rfl (by omega) ?_
          refine Plan.load1 (j := (t99 / 8)) h109 0 rfl rfl rfl (by omega) FField.sc5 ?_
          refine Plan.move_int rfl rfl ?_
          refine Plan.quoN (a := t99) (b := 51) rfl rfl rfl (by omega) ?_
          refine Plan.idxArr1 (j := (t99 / 51)) FField.arr26 rfl rfl rfl (by omega) ?_
          refine Plan.load1 (j := (t99 / 51)) h109 1 rfl rfl rfl (by omega) FField.sc24 ?_
          refine Plan.move_int rfl rfl ?_
          refine Plan.remN (a := t99) (b := 51) rfl rfl rfl (by omega) ?_
          refine Plan.shrU .u64 (X := ((upd m64 4 ((m64 4) &&& (2251799813685247#64))) (t99 / 51))) (c := (t99 % 51)) rfl rfl rfl ?_
          refine Plan.andU .u64 (X := (((upd m64 4 ((m64 4) &&& (2251799813685247#64))) (t99 / 51)) >>> (t99 % 51))) (Y := 1#64) rfl rfl rfl ?_
          refine Plan.convUU .u8 (X := ((((upd m64 4 ((m64 4) &&& (2251799813685247#64))) (t99 / 51)) >>> (t99 % 51)) &&& (1#64))) FField.u5 FField.some24 rfl rfl ?_
          refine Plan.move_int rfl rfl ?_
          refine Plan.remN (a := t99) (b := 8) rfl rfl rfl (by omega) ?_
          refine Plan.shlU .u8 (X := (((((upd m64 4 ((m64 4) &&& (2251799813685247#64))) (t99 / 51)) >>> (t99 % 51)) &&& (1#64)).setWidth 8)) (c := (t99 % 8)) rfl rfl rfl ?_
          refine Plan.orU .u8 (X := (m100 (t99 / 8))) (Y := ((((((upd m64 4 ((m64 4) &&& (2251799813685247#64))) (t99 / 51)) >>> (t99 % 51)) &&& (1#64)).setWidth 8) <<< (t99 % 8))) rfl rfl rfl ?_
          refine Plan.idxArr1 (j := (t99 / 8)) FField.arr23 rfl rfl rfl (by omega) ?_
          refine Plan.storeU (j := (t99 / 8)) (X := ((m100 (t99 / 8)) ||| ((((((upd m64 4 ((m64 4) &&& (2251799813685247#64))) (t99 / 51)) >>> (t99 % 51)) &&& (1#64)).setWidth 8) <<< (t99 % 8)))) h109 0 rfl rfl rfl rfl (by omega) FField.sz5 rfl fun w110 h110 => ?_
          simp only [List.cons_append, List.nil_append, List.set_cons_zero, List.set_cons_succ] at h110
          refine Plan.nil ?_
          refine blockR_norm ?_
          refine hK107 _ _ ?_; clear hK107
          refine W.regionT [(0, true), (1, true)] (by kernel_rfl) ?_
          refine Plan.addN (a := t99) (b := 1) rfl rfl rfl (by omega) ?_
          refine Plan.move_int rfl rfl ?_
          refine Plan.nil ?_
          exact iterR_norm ⟨_, hR, (EnvHas.cons rfl (EnvHas.cons rfl (EnvHas.cons rfl (EnvHas.cons rfl EnvHas.nil)))), h110⟩
        ·
          replace hR := ifF hR hc106
          refine W.condF (congrArg Value.bool (decide_eq_false hc106)) ?_
          refine W.exit (thenR_exit (iterR_exit (blockR_here ?_)))
          have h111 := St.pickT (C := [_, _, _]) h103 [0, 2] (by decide)
          simp only [pick, List.filterMap_cons, List.filterMap_nil, List.getElem?_cons_zero, List.getElem?_cons_succ, List.cons_append, List.nil_append] at h111
          exact ⟨m100, (hx102 _ hR).symm, (EnvHas.cons rfl (EnvHas.cons rfl EnvHas.nil)), h111⟩
      ·
        rintro ev112 wl112 ⟨y_m101, hy112, he112, h112⟩
        obtain ⟨ev112, rfl⟩ := he112.open
        subst hy112
        replace hR := hR0102
        refine hK81 _ _ ?_; clear hK81
        refine W.seq_k fun K113 hK113 => ?_
        refine W.regionT [(0, true), (1, false)] (by kernel_rfl) ?_
        refine Plan.loadA1 h112 0 rfl rfl rfl FField.agg23 ?_
        refine Plan.storeA (f' := fun q => VU .u8 (m101 q)) h112 1 rfl rfl rfl rfl (fun _ _ => rfl) FField.sz23 rfl fun w114 h114 => ?_
        simp only [List.cons_append, List.nil_append, List.set_cons_zero, List.set_cons_succ] at h114
        refine Plan.nil ?_
        refine hK113 _ _ ?_; clear hK113
        refine W.ret (finR_ret ?_)
        have h115 := St.pickT (C := [_, _]) h114 [] (by decide)
        simp only [pick, List.filterMap_cons, List.filterMap_nil, List.getElem?_cons_zero, List.getElem?_cons_succ, List.cons_append, List.nil_append] at h115
        subst r
        refine RetOk.mk (.agg h114 rfl (.cons 1 rfl .nil) FField.agg23 .nil) ?_
        exact ⟨rfl, h115⟩


set_option maxRecDepth 8000 in
set_option maxHeartbeats 1000000 in
theorem field_Elem_Equal_ok {B : Nat} {w0 w : World} {L : List Rg} {al1 : Nat → BitVec 64} {bl2 : Nat → BitVec 64} {r : Bool} (hR : field_Elem_Equal al1 bl2 r) (HST : St B w0 (L) w) :
    Calls Tryd.prog 15 #[AG [(5, fun q => VU .u64 (al1 q))], AG [(5, fun q => VU .u64 (bl2 q))]] w fun e w' => e = .returned (.bool r) ∧ St B w0 (L) w' := by
  refine W.enter 10 Tryd.func15 rfl rfl rfl ?_
  unfold field_Elem_Equal at hR
  refine W.seq_k fun K3 hK3 => ?_
  refine W.regionT [(0, false), (1, false), (2, true)] (by kernel_rfl) ?_
  refine Plan.boxA HST rfl rfl PIn.nil fun b4 w4 hb4 h4 => ?_
  simp only [rngs, Nat.zero_add, Nat.reduceAdd, List.cons_append, List.nil_append] at h4
  refine Plan.boxA h4 rfl rfl PIn.nil fun b5 w5 hb5 h5 => ?_
  simp only [rngs, Nat.zero_add, Nat.reduceAdd, List.cons_append, List.nil_append] at h5
  refine Plan.assign_bool rfl rfl ?_
  refine Plan.nil ?_
  refine hK3 _ _ ?_; clear hK3
  refine W.seq_k fun K6 hK6 => ?_
  refine W.regionD FField.mixed [(0, true), (2, true), (1, false), (3, false), (4, true), (5, true)] (by kernel_rfl) ?_
  have h7 := h5.drew
  refine Plan.loadA1 h7 1 rfl rfl rfl FField.agg28 ?_
  refine Plan.loadA1 h7 0 rfl rfl rfl FField.agg28 ?_
  obtain ⟨x_9, hr8, hR⟩ := hR
  refine Plan.call (vs := [AG [(5, fun q => VU .u64 (al1 q))]]) rfl FField.call19 rfl (field_Elem_Bytes_ok  hr8 h7) ?_
  rintro _ w10 ⟨rfl, h10⟩
  refine ⟨_, rfl, .inl ⟨PIn.keep (PIn.cons 0 rfl (PIn.cons 1 rfl PIn.nil)) h10, ?_⟩⟩
  obtain ⟨x_12, hr11, hR⟩ := hR
  refine Plan.call (vs := [AG [(5, fun q => VU .u64 (bl2 q))]]) rfl FField.call19 rfl (field_Elem_Bytes_ok  hr11 h10) ?_
  rintro _ w13 ⟨rfl, h13⟩
  refine ⟨_, rfl, .inl ⟨PIn.keep (PIn.cons 0 rfl (PIn.cons 1 rfl PIn.nil)) h13, ?_⟩⟩
  refine Plan.eqArrV (b := (eqB 32 x_9 x_12)) FField.arrI23 rfl rfl rfl rfl ?_
  refine Plan.assign_bool rfl rfl ?_
  refine Plan.nil ?_
  refine hK6 _ _ ?_; clear hK6
  refine W.ret (finR_ret ?_)
  have h14 := St.pickT (C := [_, _]) h13 [] (by decide)
  simp only [pick, List.filterMap_cons, List.filterMap_nil, List.getElem?_cons_zero, List.getElem?_cons_succ, List.cons_append, List.nil_append] at h14
  subst r
  refine RetOk.mk (.tmp_bool rfl .nil) ?_
  exact ⟨rfl, h14⟩


set_option maxRecDepth 8000 in
set_option maxHeartbeats 1000000 in
theorem field_Elem_Sub_ok {B : Nat} {w0 w : World} {L : List Rg} {iG0 : Nat} (hG0 : L[iG0]? = some ⟨some 0, 0, 5, fun q => VU .u64 (twice5 q), false⟩) {al1 : Nat → BitVec 64} {bl2 : Nat → BitVec 64} {r : (Nat → BitVec 64)} (hR : field_Elem_Sub al1 bl2 r) (HST : St B w0 (L) w) :
    Calls Tryd.prog 17 #[AG [(5, fun q => VU .u64 (al1 q))], AG [(5, fun q => VU .u64 (bl2 q))]] w fun e w' => e = .returned (AG [(5, fun q => VU .u64 (r q))]) ∧ St B w0 (L) w' := by
  refine W.enter 29 Tryd.func17 rfl rfl rfl ?_
  unfold field_Elem_Sub at hR
  refine W.seq_k fun K3 hK3 => ?_
  refine W.regionT [(0, false), (1, false), (2, false)] (by kernel_rfl) ?_
  refine Plan.boxA HST rfl rfl PIn.nil fun b4 w4 hb4 h4 => ?_
  simp only [rngs, Nat.zero_add, Nat.reduceAdd, List.cons_append, List.nil_append] at h4
  refine Plan.boxA h4 rfl rfl PIn.nil fun b5 w5 hb5 h5 => ?_
  simp only [rngs, Nat.zero_add, Nat.reduceAdd, List.cons_append, List.nil_append] at h5
  refine Plan.alloc h5 rfl FField.z28 PIn.nil fun b6 w6 hb6 h6 => ?_
  simp only [rngs, Nat.zero_add, Nat.reduceAdd, List.cons_append, List.nil_append] at h6
  refine Plan.nil ?_
  refine hK3 _ _ ?_; clear hK3
  refine W.seq_k fun K7 hK7 => ?_
  refine W.seq_k fun K8 hK8 => ?_
  refine W.regionT [(0, true)] (by kernel_rfl) ?_
  refine Plan.move_int rfl rfl ?_
  refine Plan.nil ?_
  refine hK8 _ _ ?_; clear hK8
  obtain ⟨m27, hI28, hR028⟩ := hR
  refine W.cutN (fun e w => ∃ y_m27 : Nat → BitVec 64, m27 = y_m27 ∧ EnvHas e [(2, .pointer (some ⟨b4, 0, none⟩)), (4, .pointer (some ⟨b6, 0, none⟩))] ∧ St B w0 (⟨some b6, 0, 5, fun q => VU .u64 ((fun _ => 0#64) q), true⟩ :: ⟨some b4, 0, 5, fun q => VU .u64 (y_m27 q), true⟩ :: L) w) ?_ ?_
  ·
    refine W.block ?_
    refine W.iter hI28 (fun (s28 : (Nat × (Nat → BitVec 64))) e w => EnvHas e [(2, .pointer (some ⟨b4, 0, none⟩)), (3, .pointer (some ⟨b5, 0, none⟩)), (4, .pointer (some ⟨b6, 0, none⟩)), (6, VN s28.1)] ∧ St B w0 (⟨some b6, 0, 5, fun q => VU .u64 ((fun _ => 0#64) q), true⟩ :: ⟨some b5, 0, 5, fun q => VU .u64 (bl2 q), true⟩ :: ⟨some b4, 0, 5, fun q => VU .u64 (s28.2 q), true⟩ :: L) w) ⟨(EnvHas.cons rfl (EnvHas.cons rfl (EnvHas.cons rfl (EnvHas.cons rfl EnvHas.nil)))), h6⟩ ?_
    rintro ⟨t25, m26⟩ o28 hR hx28 ev29 wl29 ⟨he29, h29⟩
    obtain ⟨ev29, rfl⟩ := he29.open
    unfold field_Elem_Sub_l0 at hR
    refine W.seq_k fun K30 hK30 => ?_
    refine W.regionT [(0, true)] (by kernel_rfl) ?_
    refine Plan.cmpP (a := (((t25 : Nat) : Int) : Int)) (b := (5 : Int)) (p := t25 < 5) rfl rfl rfl rfl icmp_ltN ?_
    refine Plan.nil ?_
    refine hK30 _ _ ?_; clear hK30
    refine W.seq_k fun K31 hK31 => ?_
    by_cases hc32 : t25 < 5
    ·
      replace hR := ifT hR hc32
      refine W.condT (congrArg Value.bool (decide_eq_true hc32)) ?_
      refine W.skip ?_
      refine hK31 _ _ ?_; clear hK31
      refine W.seq_k fun K33 hK33 => ?_
      refine W.block ?_
      refine W.seq_k fun K34 hK34 => ?_
      refine W.regionT [(0, true), (1, true)] (by kernel_rfl) ?_
      refine Plan.move_int rfl rfl ?_
      refine Plan.assign_int rfl rfl ?_
      refine Plan.nil ?_
      refine hK34 _ _ ?_; clear hK34
      refine W.regionD FField.mixed [(0, true), (1, true), (2, true), (3, true), (4, true), (5, true), (6, true), (7, true), (8, true), (9, true), (10, true), (11, true), (12, true), (13, true), (14, true), (15, false)] (by kernel_rfl) ?_
      have h35 := h29.drew
      refine Plan.move_int rfl rfl ?_
      refine Plan.fieldAddr0 FField.fld28_0 rfl rfl ?_
      refine Plan.idxArr1 (j := t25) FField.arr26 rfl rfl rfl (by omega) ?_
      refine Plan.load1 (j := t25) h35 2 rfl rfl rfl (by omega) FField.sc24 ?_
      refine Plan.move_int rfl rfl ?_
      refine Plan.idxArr1 (j := t25) FField.arr26 rfl rfl rfl (by omega) ?_
      refine Plan.load1 (j := t25) h35 (iG0 + 3) rfl rfl hG0 (by omega) FField.sc24 ?_
      refine Plan.move_int rfl rfl ?_
      refine Plan.fieldAddr0 FField.fld28_0 rfl rfl ?_
      refine Plan.idxArr1 (j := t25) FField.arr26 rfl rfl rfl (by omega) ?_
      refine Plan.load1 (j := t25) h35 1 rfl rfl rfl (by omega) FField.sc24 ?_
      refine Plan.subU .u64 (X := (twice5 t25)) (Y := (bl2 t25)) rfl rfl rfl ?_
      refine Plan.addU .u64 (X := (m26 t25)) (Y := ((twice5 t25) - (bl2 t25))) rfl rfl rfl ?_
      refine Plan.fieldAddr0 FField.fld28_0 rfl rfl ?_
      refine Plan.idxArr1 (j := t25) FField.arr26 rfl rfl rfl (by omega) ?_
      refine Plan.storeU (j := t25) (X := ((m26 t25) + ((twice5 t25) - (bl2 t25)))) h35 2 rfl rfl rfl rfl (by omega) FField.sz24 rfl fun w36 h36 => ?_
      simp only [List.cons_append, List.nil_append, List.set_cons_zero, List.set_cons_succ] at h36
      refine Plan.nil ?_
      refine blockR_norm ?_
      refine hK33 _ _ ?_; clear hK33
      refine W.regionT [(0, true), (1, true)] (by kernel_rfl) ?_
      refine Plan.addN (a := t25) (b := 1) rfl rfl rfl (by omega) ?_
      refine Plan.move_int rfl rfl ?_
      refine Plan.nil ?_
      exact iterR_norm ⟨_, hR, (EnvHas.cons rfl (EnvHas.cons rfl (EnvHas.cons rfl (EnvHas.cons rfl EnvHas.nil)))), h36⟩
    ·
      replace hR := ifF hR hc32
      refine W.condF (congrArg Value.bool (decide_eq_false hc32)) ?_
      refine W.exit (thenR_exit (iterR_exit (blockR_here ?_)))
      have h37 := St.pickT (C := [_, _, _]) h29 [0, 2] (by decide)
      simp only [pick, List.filterMap_cons, List.filterMap_nil, List.getElem?_cons_zero, List.getElem?_cons_succ, List.cons_append, List.nil_append] at h37
      exact ⟨m26, (hx28 _ hR).symm, (EnvHas.cons rfl (EnvHas.cons rfl EnvHas.nil)), h37⟩
  ·
    rintro ev38 wl38 ⟨y_m27, hy38, he38, h38⟩
    obtain ⟨ev38, rfl⟩ := he38.open
    subst hy38
    replace hR := hR028
    refine hK7 _ _ ?_; clear hK7
    refine W.seq_k fun K39 hK39 => ?_
    refine W.regionT [(0, true), (1, true), (2, false), (3, true), (4, false)] (by kernel_rfl) ?_
    refine Plan.fieldAddr0 FField.fld28_0 rfl rfl ?_
    refine Plan.loadA1 h38 1 rfl rfl rfl FField.agg26 ?_
    obtain ⟨x_41, hr40, hR⟩ := hR
    refine Plan.call (vs := [AG [(5, fun q => VU .u64 (m27 q))]]) rfl FField.call33 rfl (field_limbs_carried_ok  hr40 h38) ?_
    rintro _ w42 ⟨rfl, h42⟩
    refine ⟨_, rfl, .inr ⟨rfl, ?_⟩⟩
    refine Plan.buildP (ps := [(5, fun q => VU .u64 (x_41 q))]) FField.pl28 (by decide) FField.z28 rfl rfl (.agg [] [(5, fun q => VU .u64 ((fun _ => 0#64) q))] [] [(5, fun q => VU .u64 (x_41 q))] rfl rfl .nil) ?_
    refine Plan.storeA (f' := fun q => VU .u64 (x_41 q)) h42 0 rfl rfl rfl rfl (fun _ _ => rfl) FField.sz28 rfl fun w43 h43 => ?_
    simp only [List.cons_append, List.nil_append, List.set_cons_zero, List.set_cons_succ] at h43
    refine Plan.nil ?_
    refine hK39 _ _ ?_; clear hK39
    refine W.ret (finR_ret ?_)
    have h44 := St.pickT (C := [_, _]) h43 [] (by decide)
    simp only [pick, List.filterMap_cons, List.filterMap_nil, List.getElem?_cons_zero, List.getElem?_cons_succ, List.cons_append, List.nil_append] at h44
    subst r
    refine RetOk.mk (.agg h43 rfl (.cons 0 rfl .nil) FField.agg28 .nil) ?_
    exact ⟨rfl, h44⟩


set_option maxRecDepth 8000 in
set_option maxHeartbeats 1000000 in
theorem field_Elem_Root_ok {B : Nat} {w0 w : World} {L : List Rg} {iG0 : Nat} (hG0 : L[iG0]? = some ⟨some 0, 0, 5, fun q => VU .u64 (twice5 q), false⟩) {al1 : Nat → BitVec 64} {r : ((Nat → BitVec 64) × Bool)} (hR : field_Elem_Root al1 r) (HST : St B w0 (L) w) :
    Calls Tryd.prog 20 #[AG [(5, fun q => VU .u64 (al1 q))]] w fun e w' => e = .returned (.tuple #[AG [(5, fun q => VU .u64 (r.1 q))], .bool r.2]) ∧ St B w0 (L) w' := by
  refine W.enter 33 Tryd.func20 rfl rfl rfl ?_
  unfold field_Elem_Root at hR
  refine W.seq_k fun K2 hK2 => ?_
  refine W.regionT [(0, false), (1, false), (2, true)] (by kernel_rfl) ?_
  refine Plan.boxA HST rfl rfl PIn.nil fun b3 w3 hb3 h3 => ?_
  simp only [rngs, Nat.zero_add, Nat.reduceAdd, List.cons_append, List.nil_append] at h3
  refine Plan.alloc h3 rfl FField.z28 PIn.nil fun b4 w4 hb4 h4 => ?_
  simp only [rngs, Nat.zero_add, Nat.reduceAdd, List.cons_append, List.nil_append] at h4
  refine Plan.assign_bool rfl rfl ?_
  refine Plan.nil ?_
  refine hK2 _ _ ?_; clear hK2
  refine W.seq_k fun K5 hK5 => ?_
  refine W.regionX (B := B) (w0 := w0) (L := L) FField.mixed [⟨3, 4, 28, [(5, fun q => VU .u64 ((fun _ => 0#64) q))]⟩] [(0, true)] [[(1, false)], [(2, false)]] [(4, false)] (by kernel_rfl) (by kernel_rfl) (.cons FField.z28 .nil) ?_
  have h6 := h4.drew
  refine Plan.loadA1 h6 1 rfl rfl rfl FField.agg28 ?_
  refine Plan.nil ⟨[_, _], h6, (PIn.cons 1 rfl PIn.nil), ?_⟩
  refine PX.step fun C7 z7 w7 h7 => ?_
  simp only [List.cons_append, List.nil_append] at h7
  obtain ⟨x_9, hr8, hR⟩ := hR
  refine Plan.call (vs := [VU .u8 (254#8), VU .u8 (15#8)]) rfl FField.call37 rfl (field_exponent_ok  hr8 h7) ?_
  rintro _ w10 ⟨rfl, h10⟩
  refine ⟨_, rfl, .inl ⟨PIn.keep (PIn.cons 1 rfl PIn.nil) h10, ?_⟩⟩
  refine Plan.nil ⟨[_, _], h10, (PIn.cons 1 rfl PIn.nil), ?_⟩
  refine PX.step fun C11 z11 w11 h11 => ?_
  simp only [List.cons_append, List.nil_append] at h11
  obtain ⟨x_13, hr12, hR⟩ := hR
  refine Plan.call (vs := [AG [(5, fun q => VU .u64 (al1 q))], AG [(32, fun q => VU .u8 (x_9 q))]]) rfl FField.call36 rfl (field_Elem_Pow_ok  hr12 h11) ?_
  rintro _ w14 ⟨rfl, h14⟩
  refine ⟨_, rfl, .inr ⟨rfl, ?_⟩⟩
  refine Plan.nil ⟨[_, _], h14, PIn.nil, ?_⟩
  refine PX.done (KE.step fun b15_3 => (KE.fin fun w15 h15 => ?_))
  simp only [rngs, Nat.zero_add, Nat.reduceAdd, List.cons_append, List.nil_append] at h15
  refine Plan.storeA (f' := fun q => VU .u64 (x_13 q)) h15 2 rfl rfl rfl rfl (fun _ _ => rfl) FField.sz28 rfl fun w16 h16 => ?_
  simp only [List.cons_append, List.nil_append, List.set_cons_zero, List.set_cons_succ] at h16
  refine Plan.nil ?_
  refine hK5 _ _ ?_; clear hK5
  refine W.seq_k fun K17 hK17 => ?_
  obtain ⟨m41, hX42, hR042⟩ := hR
  refine W.cutN (fun e w => ∃ y_m41 : Nat → BitVec 64, (m41 = y_m41) ∧ EnvHas e [(1, .pointer (some ⟨b3, 0, none⟩)), (2, .pointer (some ⟨b4, 0, none⟩)), (4, .pointer (some ⟨b15_3, 0, none⟩))] ∧ St B w0 (⟨some b4, 0, 5, fun q => VU .u64 ((fun _ => 0#64) q), true⟩ :: ⟨some b3, 0, 5, fun q => VU .u64 (al1 q), true⟩ :: ⟨some b15_3, 0, 5, fun q => VU .u64 (y_m41 q), true⟩ :: L) w) ?_ ?_
  ·
    replace hR := hX42
    refine W.seq_k fun K43 hK43 => ?_
    refine W.regionD FField.mixed [(0, true), (2, true), (1, false), (3, false), (4, true)] (by kernel_rfl) ?_
    have h44 := h16.drew
    refine Plan.loadA1 h44 2 rfl rfl rfl FField.agg28 ?_
    refine Plan.loadA1 h44 1 rfl rfl rfl FField.agg28 ?_
    obtain ⟨x_46, hr45, hR⟩ := hR
    refine Plan.call (vs := [AG [(5, fun q => VU .u64 (x_13 q))]]) rfl FField.call18 rfl (field_Elem_Square_ok  hr45 h44) ?_
    rintro _ w47 ⟨rfl, h47⟩
    refine ⟨_, rfl, .inl ⟨PIn.keep (PIn.cons 1 rfl (PIn.cons 2 rfl PIn.nil)) h47, ?_⟩⟩
    obtain ⟨x_49, hr48, hR⟩ := hR
    refine Plan.call (vs := [AG [(5, fun q => VU .u64 (x_46 q))], AG [(5, fun q => VU .u64 (al1 q))]]) rfl FField.call15 rfl (field_Elem_Equal_ok  hr48 h47) ?_
    rintro _ w50 ⟨rfl, h50⟩
    refine ⟨_, rfl, .inl ⟨PIn.keep (PIn.cons 1 rfl (PIn.cons 2 rfl PIn.nil)) h50, ?_⟩⟩
    refine Plan.not rfl rfl ?_
    refine Plan.nil ?_
    refine hK43 _ _ ?_; clear hK43
    by_cases hc51 : x_49 = true
    ·
      replace hR := ifT hR hc51
      refine W.condF (congrArg Value.bool (congrArg Bool.not hc51)) ?_
      refine W.skip ?_
      exact ⟨x_13, hR, (EnvHas.cons rfl (EnvHas.cons rfl (EnvHas.cons rfl EnvHas.nil))), h50⟩
    ·
      replace hR := ifF hR hc51
      refine W.condT (congrArg Value.bool (congrArg Bool.not (Bool.eq_false_iff.2 hc51))) ?_
      refine W.regionD FField.mixed [(0, true), (1, false), (2, false), (3, false), (4, false), (5, false)] (by kernel_rfl) ?_
      have h52 := h50.drew
      refine Plan.loadA1 h52 2 rfl rfl rfl FField.agg28 ?_
      obtain ⟨x_54, hr53, hR⟩ := hR
      refine Plan.call (vs := [VU .u32 (2#32)]) rfl FField.call13 rfl (field_Small_ok  hr53 h52) ?_
      rintro _ w55 ⟨rfl, h55⟩
      refine ⟨_, rfl, .inl ⟨PIn.keep (PIn.cons 2 rfl PIn.nil) h55, ?_⟩⟩
      obtain ⟨x_57, hr56, hR⟩ := hR
      refine Plan.call (vs := [VU .u8 (251#8), VU .u8 (31#8)]) rfl FField.call37 rfl (field_exponent_ok  hr56 h55) ?_
      rintro _ w58 ⟨rfl, h58⟩
      refine ⟨_, rfl, .inl ⟨PIn.keep (PIn.cons 2 rfl PIn.nil) h58, ?_⟩⟩
      obtain ⟨x_60, hr59, hR⟩ := hR
      refine Plan.call (vs := [AG [(5, fun q => VU .u64 (x_54 q))], AG [(32, fun q => VU .u8 (x_57 q))]]) rfl FField.call36 rfl (field_Elem_Pow_ok  hr59 h58) ?_
      rintro _ w61 ⟨rfl, h61⟩
      refine ⟨_, rfl, .inl ⟨PIn.keep (PIn.cons 2 rfl PIn.nil) h61, ?_⟩⟩
      obtain ⟨x_63, hr62, hR⟩ := hR
      refine Plan.call (vs := [AG [(5, fun q => VU .u64 (x_13 q))], AG [(5, fun q => VU .u64 (x_60 q))]]) rfl FField.call16 rfl (field_Elem_Mul_ok  hr62 h61) ?_
      rintro _ w64 ⟨rfl, h64⟩
      refine ⟨_, rfl, .inr ⟨rfl, ?_⟩⟩
      refine Plan.storeA (f' := fun q => VU .u64 (x_63 q)) h64 2 rfl rfl rfl rfl (fun _ _ => rfl) FField.sz28 rfl fun w65 h65 => ?_
      simp only [List.cons_append, List.nil_append, List.set_cons_zero, List.set_cons_succ] at h65
      refine Plan.nil ?_
      exact ⟨x_63, hR, (EnvHas.cons rfl (EnvHas.cons rfl (EnvHas.cons rfl EnvHas.nil))), h65⟩
  ·
    rintro ev66 wl66 ⟨y_m41, hy66_0, he66, h66⟩
    subst hy66_0
    obtain ⟨ev66, rfl⟩ := he66.open
    replace hR := hR042
    refine hK17 _ _ ?_; clear hK17
    refine W.seq_k fun K67 hK67 => ?_
    refine W.seq_k fun K68 hK68 => ?_
    refine W.regionD FField.mixed [(0, true), (2, true), (1, false), (3, false), (4, true)] (by kernel_rfl) ?_
    have h69 := h66.drew
    refine Plan.loadA1 h69 2 rfl rfl rfl FField.agg28 ?_
    refine Plan.loadA1 h69 1 rfl rfl rfl FField.agg28 ?_
    obtain ⟨x_71, hr70, hR⟩ := hR
    refine Plan.call (vs := [AG [(5, fun q => VU .u64 (m41 q))]]) rfl FField.call18 rfl (field_Elem_Square_ok  hr70 h69) ?_
    rintro _ w72 ⟨rfl, h72⟩
    refine ⟨_, rfl, .inl ⟨PIn.keep (PIn.cons 1 rfl (PIn.cons 2 rfl PIn.nil)) h72, ?_⟩⟩
    obtain ⟨x_74, hr73, hR⟩ := hR
    refine Plan.call (vs := [AG [(5, fun q => VU .u64 (x_71 q))], AG [(5, fun q => VU .u64 (al1 q))]]) rfl FField.call15 rfl (field_Elem_Equal_ok  hr73 h72) ?_
    rintro _ w75 ⟨rfl, h75⟩
    refine ⟨_, rfl, .inl ⟨PIn.keep (PIn.cons 1 rfl (PIn.cons 2 rfl PIn.nil)) h75, ?_⟩⟩
    refine Plan.not rfl rfl ?_
    refine Plan.nil ?_
    refine hK68 _ _ ?_; clear hK68
    by_cases hc76 : x_74 = true
    ·
      replace hR := ifT hR hc76
      refine W.condF (congrArg Value.bool (congrArg Bool.not hc76)) ?_
      refine W.skip ?_
      refine hK67 _ _ ?_; clear hK67
      refine W.seq_k fun K77 hK77 => ?_
      obtain ⟨m87, hX88, hR088⟩ := hR
      refine W.cutN (fun e w => ∃ y_m87 : Nat → BitVec 64, (m87 = y_m87) ∧ EnvHas e [(2, .pointer (some ⟨b4, 0, none⟩)), (4, .pointer (some ⟨b15_3, 0, none⟩))] ∧ St B w0 (⟨some b4, 0, 5, fun q => VU .u64 ((fun _ => 0#64) q), true⟩ :: ⟨some b15_3, 0, 5, fun q => VU .u64 (y_m87 q), true⟩ :: L) w) ?_ ?_
      ·
        replace hR := hX88
        refine W.seq_k fun K89 hK89 => ?_
        refine W.regionT [(0, true), (1, false), (2, true), (3, true), (4, true)] (by kernel_rfl) ?_
        refine Plan.loadA1 h75 2 rfl rfl rfl FField.agg28 ?_
        obtain ⟨x_91, hr90, hR⟩ := hR
        refine Plan.call (vs := [AG [(5, fun q => VU .u64 (m41 q))]]) rfl FField.call19 rfl (field_Elem_Bytes_ok  hr90 h75) ?_
        rintro _ w92 ⟨rfl, h92⟩
        refine ⟨_, rfl, .inr ⟨rfl, ?_⟩⟩
        refine Plan.indexA (j := 0) FField.isarr23 FField.sz5 FField.sc5 rfl rfl rfl (by omega) (by decide) ?_
        refine Plan.andU .u8 (X := (x_91 0)) (Y := 1#8) rfl rfl rfl ?_
        refine Plan.cmpP (a := (((x_91 0) &&& (1#8)).toNat : Int)) (b := ((1#8).toNat : Int)) (p := ((x_91 0) &&& (1#8)) = 1#8) rfl rfl rfl rfl icmp_eqU ?_
        refine Plan.nil ?_
        refine hK89 _ _ ?_; clear hK89
        by_cases hc93 : ((x_91 0) &&& (1#8)) = 1#8
        ·
          replace hR := ifT hR hc93
          refine W.condT (congrArg Value.bool (decide_eq_true hc93)) ?_
          refine W.regionT [(0, true), (1, true), (2, false), (3, false)] (by kernel_rfl) ?_
          refine Plan.buildZ FField.row28 FField.z28 rfl ?_
          refine Plan.loadA1 h92 2 rfl rfl rfl FField.agg28 ?_
          obtain ⟨x_95, hr94, hR⟩ := hR
          refine Plan.call (vs := [AG [(5, fun q => VU .u64 ((fun _ => 0#64) q))], AG [(5, fun q => VU .u64 (m41 q))]]) rfl FField.call17 rfl (field_Elem_Sub_ok (iG0 := iG0 + 3) hG0 hr94 h92) ?_
          rintro _ w96 ⟨rfl, h96⟩
          refine ⟨_, rfl, .inr ⟨rfl, ?_⟩⟩
          refine Plan.storeA (f' := fun q => VU .u64 (x_95 q)) h96 2 rfl rfl rfl rfl (fun _ _ => rfl) FField.sz28 rfl fun w97 h97 => ?_
          simp only [List.cons_append, List.nil_append, List.set_cons_zero, List.set_cons_succ] at h97
          refine Plan.nil ?_
          have h98 := St.pickT (C := [_, _, _]) h97 [0, 2] (by decide)
          simp only [pick, List.filterMap_cons, List.filterMap_nil, List.getElem?_cons_zero, List.getElem?_cons_succ, List.cons_append, List.nil_append] at h98
          exact ⟨x_95, hR, (EnvHas.cons rfl (EnvHas.cons rfl EnvHas.nil)), h98⟩
        ·
          replace hR := ifF hR hc93
          refine W.condF (congrArg Value.bool (decide_eq_false hc93)) ?_
          refine W.skip ?_
          have h99 := St.pickT (C := [_, _, _]) h92 [0, 2] (by decide)
          simp only [pick, List.filterMap_cons, List.filterMap_nil, List.getElem?_cons_zero, List.getElem?_cons_succ, List.cons_append, List.nil_append] at h99
          exact ⟨m41, hR, (EnvHas.cons rfl (EnvHas.cons rfl EnvHas.nil)), h99⟩
      ·
        rintro ev100 wl100 ⟨y_m87, hy100_0, he100, h100⟩
        subst hy100_0
        obtain ⟨ev100, rfl⟩ := he100.open
        replace hR := hR088
        refine hK77 _ _ ?_; clear hK77
        refine W.seq_k fun K101 hK101 => ?_
        refine W.regionT [(0, true), (1, false), (2, true)] (by kernel_rfl) ?_
        refine Plan.loadA1 h100 1 rfl rfl rfl FField.agg28 ?_
        refine Plan.storeA (f' := fun q => VU .u64 (m87 q)) h100 0 rfl rfl rfl rfl (fun _ _ => rfl) FField.sz28 rfl fun w102 h102 => ?_
        simp only [List.cons_append, List.nil_append, List.set_cons_zero, List.set_cons_succ] at h102
        refine Plan.assign_bool rfl rfl ?_
        refine Plan.nil ?_
        refine hK101 _ _ ?_; clear hK101
        refine W.ret (finR_ret ?_)
        have h103 := St.pickT (C := [_, _]) h102 [] (by decide)
        simp only [pick, List.filterMap_cons, List.filterMap_nil, List.getElem?_cons_zero, List.getElem?_cons_succ, List.cons_append, List.nil_append] at h103
        subst r
        refine RetOk.mk (.agg h102 rfl (.cons 0 rfl .nil) FField.agg28 (.tmp_bool rfl .nil)) ?_
        exact ⟨rfl, h103⟩
    ·
      replace hR := ifF hR hc76
      refine W.condT (congrArg Value.bool (congrArg Bool.not (Bool.eq_false_iff.2 hc76))) ?_
      refine W.seq_k fun K104 hK104 => ?_
      refine W.regionT [(0, true), (1, false), (2, true)] (by kernel_rfl) ?_
      refine Plan.buildZ FField.row28 FField.z28 rfl ?_
      refine Plan.storeA (f' := fun q => VU .u64 ((fun _ => 0#64) q)) h75 0 rfl rfl rfl rfl (fun _ _ => rfl) FField.sz28 rfl fun w105 h105 => ?_
      simp only [List.cons_append, List.nil_append, List.set_cons_zero, List.set_cons_succ] at h105
      refine Plan.assign_bool rfl rfl ?_
      refine Plan.nil ?_
      refine hK104 _ _ ?_; clear hK104
      refine W.ret (thenR_ret (finR_ret ?_))
      have h106 := St.pickT (C := [_, _, _]) h105 [] (by decide)
      simp only [pick, List.filterMap_cons, List.filterMap_nil, List.getElem?_cons_zero, List.getElem?_cons_succ, List.cons_append, List.nil_append] at h106
      subst r
      refine RetOk.mk (.agg h105 rfl (.cons 0 rfl .nil) FField.agg28 (.tmp_bool rfl .nil)) ?_
      exact ⟨rfl, h106⟩


set_option maxRecDepth 8000 in
set_option maxHeartbeats 1000000 in
theorem field_Elem_Add_ok {B : Nat} {w0 w : World} {L : List Rg} {al1 : Nat → BitVec 64} {bl2 : Nat → BitVec 64} {r : (Nat → BitVec 64)} (hR : field_Elem_Add al1 bl2 r) (HST : St B w0 (L) w) :
    Calls Tryd.prog 14 #[AG [(5, fun q => VU .u64 (al1 q))], AG [(5, fun q => VU .u64 (bl2 q))]] w fun e w' => e = .returned (AG [(5, fun q => VU .u64 (r q))]) ∧ St B w0 (L) w' := by
  refine W.enter 25 Tryd.func14 rfl rfl rfl ?_
  unfold field_Elem_Add at hR
  refine W.seq_k fun K3 hK3 => ?_
  refine W.regionT [(0, false), (1, false), (2, false)] (by kernel_rfl) ?_
  refine Plan.boxA HST rfl rfl PIn.nil fun b4 w4 hb4 h4 => ?_
  simp only [rngs, Nat.zero_add, Nat.reduceAdd, List.cons_append, List.nil_append] at h4
  refine Plan.boxA h4 rfl rfl PIn.nil fun b5 w5 hb5 h5 => ?_
  simp only [rngs, Nat.zero_add, Nat.reduceAdd, List.cons_append, List.nil_append] at h5
  refine Plan.alloc h5 rfl FField.z28 PIn.nil fun b6 w6 hb6 h6 => ?_
  simp only [rngs, Nat.zero_add, Nat.reduceAdd, List.cons_append, List.nil_append] at h6
  refine Plan.nil ?_
  refine hK3 _ _ ?_; clear hK3
  refine W.seq_k fun K7 hK7 => ?_
  refine W.seq_k fun K8 hK8 => ?_
  refine W.regionT [(0, true)] (by kernel_rfl) ?_
  refine Plan.move_int rfl rfl ?_
  refine Plan.nil ?_
  refine hK8 _ _ ?_; clear hK8
  obtain ⟨m27, hI28, hR028⟩ := hR
  refine W.cutN (fun e w => ∃ y_m27 : Nat → BitVec 64, m27 = y_m27 ∧ EnvHas e [(2, .pointer (some ⟨b4, 0, none⟩)), (4, .pointer (some ⟨b6, 0, none⟩))] ∧ St B w0 (⟨some b6, 0, 5, fun q => VU .u64 ((fun _ => 0#64) q), true⟩ :: ⟨some b4, 0, 5, fun q => VU .u64 (y_m27 q), true⟩ :: L) w) ?_ ?_
  ·
    refine W.block ?_
    refine W.iter hI28 (fun (s28 : (Nat × (Nat → BitVec 64))) e w => EnvHas e [(2, .pointer (some ⟨b4, 0, none⟩)), (3, .pointer (some ⟨b5, 0, none⟩)), (4, .pointer (some ⟨b6, 0, none⟩)), (6, VN s28.1)] ∧ St B w0 (⟨some b6, 0, 5, fun q => VU .u64 ((fun _ => 0#64) q), true⟩ :: ⟨some b5, 0, 5, fun q => VU .u64 (bl2 q), true⟩ :: ⟨some b4, 0, 5, fun q => VU .u64 (s28.2 q), true⟩ :: L) w) ⟨(EnvHas.cons rfl (EnvHas.cons rfl (EnvHas.cons rfl (EnvHas.cons rfl EnvHas.nil)))), h6⟩ ?_
    rintro ⟨t25, m26⟩ o28 hR hx28 ev29 wl29 ⟨he29, h29⟩
    obtain ⟨ev29, rfl⟩ := he29.open
    unfold field_Elem_Add_l0 at hR
    refine W.seq_k fun K30 hK30 => ?_
    refine W.regionT [(0, true)] (by kernel_rfl) ?_
    refine Plan.cmpP (a := (((t25 : Nat) : Int) : Int)) (b := (5 : Int)) (p := t25 < 5) rfl rfl rfl rfl icmp_ltN ?_
    refine Plan.nil ?_
    refine hK30 _ _ ?_; clear hK30
    refine W.seq_k fun K31 hK31 => ?_
    by_cases hc32 : t25 < 5
    ·
      replace hR := ifT hR hc32
      refine W.condT (congrArg Value.bool (decide_eq_true hc32)) ?_
      refine W.skip ?_
      refine hK31 _ _ ?_; clear hK31
      refine W.seq_k fun K33 hK33 => ?_
      refine W.block ?_
      refine W.seq_k fun K34 hK34 => ?_
      refine W.regionT [(0, true), (1, true)] (by kernel_rfl) ?_
      refine Plan.move_int rfl rfl ?_
      refine Plan.assign_int rfl rfl ?_
      refine Plan.nil ?_
      refine hK34 _ _ ?_; clear hK34
      refine W.regionD FField.mixed [(0, true), (1, true), (2, true), (3, true), (4, true), (5, true), (6, true), (7, true), (8, true), (9, true), (10, true), (11, false)] (by kernel_rfl) ?_
      have h35 := h29.drew
      refine Plan.move_int rfl rfl ?_
      refine Plan.fieldAddr0 FField.fld28_0 rfl rfl ?_
      refine Plan.idxArr1 (j := t25) FField.arr26 rfl rfl rfl (by omega) ?_
      refine Plan.load1 (j := t25) h35 2 rfl rfl rfl (by omega) FField.sc24 ?_
      refine Plan.move_int rfl rfl ?_
      refine Plan.fieldAddr0 FField.fld28_0 rfl rfl ?_
      refine Plan.idxArr1 (j := t25) FField.arr26 rfl rfl rfl (by omega) ?_
      refine Plan.load1 (j := t25) h35 1 rfl rfl rfl (by omega) FField.sc24 ?_
      refine Plan.addU .u64 (X := (m26 t25)) (Y := (bl2 t25)) rfl rfl rfl ?_
      refine Plan.fieldAddr0 FField.fld28_0 rfl rfl ?_
      refine Plan.idxArr1 (j := t25) FField.arr26 rfl rfl rfl (by omega) ?_
      refine Plan.storeU (j := t25) (X := ((m26 t25) + (bl2 t25))) h35 2 rfl rfl rfl rfl (by omega) FField.sz24 rfl fun w36 h36 => ?_
      simp only [List.cons_append, List.nil_append, List.set_cons_zero, List.set_cons_succ] at h36
      refine Plan.nil ?_
      refine blockR_norm ?_
      refine hK33 _ _ ?_; clear hK33
      refine W.regionT [(0, true), (1, true)] (by kernel_rfl) ?_
      refine Plan.addN (a := t25) (b := 1) rfl rfl rfl (by omega) ?_
      refine Plan.move_int rfl rfl ?_
      refine Plan.nil ?_
      exact iterR_norm ⟨_, hR, (EnvHas.cons rfl (EnvHas.cons rfl (EnvHas.cons rfl (EnvHas.cons rfl EnvHas.nil)))), h36⟩
    ·
      replace hR := ifF hR hc32
      refine W.condF (congrArg Value.bool (decide_eq_false hc32)) ?_
      refine W.exit (thenR_exit (iterR_exit (blockR_here ?_)))
      have h37 := St.pickT (C := [_, _, _]) h29 [0, 2] (by decide)
      simp only [pick, List.filterMap_cons, List.filterMap_nil, List.getElem?_cons_zero, List.getElem?_cons_succ, List.cons_append, List.nil_append] at h37
      exact ⟨m26, (hx28 _ hR).symm, (EnvHas.cons rfl (EnvHas.cons rfl EnvHas.nil)), h37⟩
  ·
    rintro ev38 wl38 ⟨y_m27, hy38, he38, h38⟩
    obtain ⟨ev38, rfl⟩ := he38.open
    subst hy38
    replace hR := hR028
    refine hK7 _ _ ?_; clear hK7
    refine W.seq_k fun K39 hK39 => ?_
    refine W.regionT [(0, true), (1, true), (2, false), (3, true), (4, false)] (by kernel_rfl) ?_
    refine Plan.fieldAddr0 FField.fld28_0 rfl rfl ?_
    refine Plan.loadA1 h38 1 rfl rfl rfl FField.agg26 ?_
    obtain ⟨x_41, hr40, hR⟩ := hR
    refine Plan.call (vs := [AG [(5, fun q => VU .u64 (m27 q))]]) rfl FField.call33 rfl (field_limbs_carried_ok  hr40 h38) ?_
    rintro _ w42 ⟨rfl, h42⟩
    refine ⟨_, rfl, .inr ⟨rfl, ?_⟩⟩
    refine Plan.buildP (ps := [(5, fun q => VU .u64 (x_41 q))]) FField.pl28 (by decide) FField.z28 rfl rfl (.agg [] [(5, fun q => VU .u64 ((fun _ => 0#64) q))] [] [(5, fun q => VU .u64 (x_41 q))] rfl rfl .nil) ?_
    refine Plan.storeA (f' := fun q => VU .u64 (x_41 q)) h42 0 rfl rfl rfl rfl (fun _ _ => rfl) FField.sz28 rfl fun w43 h43 => ?_
    simp only [List.cons_append, List.nil_append, List.set_cons_zero, List.set_cons_succ] at h43
    refine Plan.nil ?_
    refine hK39 _ _ ?_; clear hK39
    refine W.ret (finR_ret ?_)
    have h44 := St.pickT (C := [_, _]) h43 [] (by decide)
    simp only [pick, List.filterMap_cons, List.filterMap_nil, List.getElem?_cons_zero, List.getElem?_cons_succ, List.cons_append, List.nil_append] at h44
    subst r
    refine RetOk.mk (.agg h43 rfl (.cons 0 rfl .nil) FField.agg28 .nil) ?_
    exact ⟨rfl, h44⟩


set_option maxRecDepth 8000 in
set_option maxHeartbeats 1000000 in
theorem field_Fits_ok {B : Nat} {w0 w : World} {L : List Rg} {b1 : Nat → BitVec 8} {r : Bool} (hR : field_Fits b1 r) (HST : St B w0 (L) w) :
    Calls Tryd.prog 40 #[AG [(32, fun q => VU .u8 (b1 q))]] w fun e w' => e = .returned (.bool r) ∧ St B w0 (L) w' := by
  refine W.enter 8 Tryd.func40 rfl rfl rfl ?_
  unfold field_Fits at hR
  refine W.seq_k fun K2 hK2 => ?_
  refine W.regionT [(0, false), (1, true)] (by kernel_rfl) ?_
  refine Plan.boxA HST rfl rfl PIn.nil fun b3 w3 hb3 h3 => ?_
  simp only [rngs, Nat.zero_add, Nat.reduceAdd, List.cons_append, List.nil_append] at h3
  refine Plan.assign_bool rfl rfl ?_
  refine Plan.nil ?_
  refine hK2 _ _ ?_; clear hK2
  refine W.seq_k fun K4 hK4 => ?_
  refine W.regionD FField.mixed [(0, true), (3, true), (1, false), (2, false), (4, true), (5, true)] (by kernel_rfl) ?_
  have h5 := h3.drew
  refine Plan.loadA1 h5 0 rfl rfl rfl FField.agg23 ?_
  refine Plan.loadA1 h5 0 rfl rfl rfl FField.agg23 ?_
  obtain ⟨x_7, hr6, hR⟩ := hR
  refine Plan.call (vs := [AG [(32, fun q => VU .u8 (b1 q))]]) rfl FField.call12 rfl (field_Read_ok  hr6 h5) ?_
  rintro _ w8 ⟨rfl, h8⟩
  refine ⟨_, rfl, .inl ⟨PIn.keep (PIn.cons 0 rfl (PIn.cons 0 rfl PIn.nil)) h8, ?_⟩⟩
  obtain ⟨x_10, hr9, hR⟩ := hR
  refine Plan.call (vs := [AG [(5, fun q => VU .u64 (x_7 q))]]) rfl FField.call19 rfl (field_Elem_Bytes_ok  hr9 h8) ?_
  rintro _ w11 ⟨rfl, h11⟩
  refine ⟨_, rfl, .inl ⟨PIn.keep (PIn.cons 0 rfl (PIn.cons 0 rfl PIn.nil)) h11, ?_⟩⟩
  refine Plan.eqArrV (b := (eqB 32 x_10 b1)) FField.arrI23 rfl rfl rfl rfl ?_
  refine Plan.assign_bool rfl rfl ?_
  refine Plan.nil ?_
  refine hK4 _ _ ?_; clear hK4
  refine W.ret (finR_ret ?_)
  have h12 := St.pickT (C := [_]) h11 [] (by decide)
  simp only [pick, List.filterMap_cons, List.filterMap_nil, List.getElem?_cons_zero, List.getElem?_cons_succ, List.cons_append, List.nil_append] at h12
  subst r
  refine RetOk.mk (.tmp_bool rfl .nil) ?_
  exact ⟨rfl, h12⟩


set_option maxRecDepth 8000 in
set_option maxHeartbeats 1000000 in
theorem field_Elem_Inv_ok {B : Nat} {w0 w : World} {L : List Rg} {al1 : Nat → BitVec 64} {r : (Nat → BitVec 64)} (hR : field_Elem_Inv al1 r) (HST : St B w0 (L) w) :
    Calls Tryd.prog 52 #[AG [(5, fun q => VU .u64 (al1 q))]] w fun e w' => e = .returned (AG [(5, fun q => VU .u64 (r q))]) ∧ St B w0 (L) w' := by
  refine W.enter 6 Tryd.func52 rfl rfl rfl ?_
  unfold field_Elem_Inv at hR
  refine W.seq_k fun K2 hK2 => ?_
  refine W.regionT [(0, false), (1, false)] (by kernel_rfl) ?_
  refine Plan.boxA HST rfl rfl PIn.nil fun b3 w3 hb3 h3 => ?_
  simp only [rngs, Nat.zero_add, Nat.reduceAdd, List.cons_append, List.nil_append] at h3
  refine Plan.alloc h3 rfl FField.z28 PIn.nil fun b4 w4 hb4 h4 => ?_
  simp only [rngs, Nat.zero_add, Nat.reduceAdd, List.cons_append, List.nil_append] at h4
  refine Plan.nil ?_
  refine hK2 _ _ ?_; clear hK2
  refine W.seq_k fun K5 hK5 => ?_
  refine W.regionD FField.mixed [(0, true), (1, false), (2, false), (3, false)] (by kernel_rfl) ?_
  have h6 := h4.drew
  refine Plan.loadA1 h6 1 rfl rfl rfl FField.agg28 ?_
  obtain ⟨x_8, hr7, hR⟩ := hR
  refine Plan.call (vs := [VU .u8 (235#8), VU .u8 (127#8)]) rfl FField.call37 rfl (field_exponent_ok  hr7 h6) ?_
  rintro _ w9 ⟨rfl, h9⟩
  refine ⟨_, rfl, .inl ⟨PIn.keep (PIn.cons 1 rfl PIn.nil) h9, ?_⟩⟩
  obtain ⟨x_11, hr10, hR⟩ := hR
  refine Plan.call (vs := [AG [(5, fun q => VU .u64 (al1 q))], AG [(32, fun q => VU .u8 (x_8 q))]]) rfl FField.call36 rfl (field_Elem_Pow_ok  hr10 h9) ?_
  rintro _ w12 ⟨rfl, h12⟩
  refine ⟨_, rfl, .inr ⟨rfl, ?_⟩⟩
  refine Plan.storeA (f' := fun q => VU .u64 (x_11 q)) h12 0 rfl rfl rfl rfl (fun _ _ => rfl) FField.sz28 rfl fun w13 h13 => ?_
  simp only [List.cons_append, List.nil_append, List.set_cons_zero, List.set_cons_succ] at h13
  refine Plan.nil ?_
  refine hK5 _ _ ?_; clear hK5
  refine W.ret (finR_ret ?_)
  have h14 := St.pickT (C := [_, _]) h13 [] (by decide)
  simp only [pick, List.filterMap_cons, List.filterMap_nil, List.getElem?_cons_zero, List.getElem?_cons_succ, List.cons_append, List.nil_append] at h14
  subst r
  refine RetOk.mk (.agg h13 rfl (.cons 0 rfl .nil) FField.agg28 .nil) ?_
  exact ⟨rfl, h14⟩


set_option maxRecDepth 8000 in
set_option maxHeartbeats 1000000 in
theorem field_Swap_ok {B : Nat} {w0 w : World} {L : List Rg} {bit1 : Int} {al2 : Nat → BitVec 64} {bl3 : Nat → BitVec 64} {r : ((Nat → BitVec 64) × (Nat → BitVec 64))} (hR : field_Swap bit1 al2 bl3 r) (HST : St B w0 (L) w) :
    Calls Tryd.prog 47 #[.int .i64 bit1, AG [(5, fun q => VU .u64 (al2 q))], AG [(5, fun q => VU .u64 (bl3 q))]] w fun e w' => e = .returned (.tuple #[AG [(5, fun q => VU .u64 (r.1 q))], AG [(5, fun q => VU .u64 (r.2 q))]]) ∧ St B w0 (L) w' := by
  refine W.enter 15 Tryd.func47 rfl rfl rfl ?_
  unfold field_Swap at hR
  refine W.seq_k fun K4 hK4 => ?_
  refine W.regionT [(0, false), (1, false), (2, false), (3, false)] (by kernel_rfl) ?_
  refine Plan.boxA HST rfl rfl PIn.nil fun b5 w5 hb5 h5 => ?_
  simp only [rngs, Nat.zero_add, Nat.reduceAdd, List.cons_append, List.nil_append] at h5
  refine Plan.boxA h5 rfl rfl PIn.nil fun b6 w6 hb6 h6 => ?_
  simp only [rngs, Nat.zero_add, Nat.reduceAdd, List.cons_append, List.nil_append] at h6
  refine Plan.alloc h6 rfl FField.z28 PIn.nil fun b7 w7 hb7 h7 => ?_
  simp only [rngs, Nat.zero_add, Nat.reduceAdd, List.cons_append, List.nil_append] at h7
  refine Plan.alloc h7 rfl FField.z28 PIn.nil fun b8 w8 hb8 h8 => ?_
  simp only [rngs, Nat.zero_add, Nat.reduceAdd, List.cons_append, List.nil_append] at h8
  refine Plan.nil ?_
  refine hK4 _ _ ?_; clear hK4
  refine W.seq_k fun K9 hK9 => ?_
  refine W.seq_k fun K10 hK10 => ?_
  refine W.regionT [(0, true), (1, true), (2, true)] (by kernel_rfl) ?_
  refine Plan.move_int rfl rfl ?_
  refine Plan.maskI (a := bit1) 1 (by decide) rfl rfl rfl ?_
  refine Plan.cmpP (a := ((bit1 % 2) : Int)) (b := (1 : Int)) (p := (bit1 % 2) = 1) rfl rfl rfl rfl icmp_eq ?_
  refine Plan.nil ?_
  refine hK10 _ _ ?_; clear hK10
  by_cases hc11 : (bit1 % 2) = 1
  ·
    replace hR := ifT hR hc11
    refine W.condT (congrArg Value.bool (decide_eq_true hc11)) ?_
    refine W.seq_k fun K12 hK12 => ?_
    refine W.regionD FField.mixed [(0, true), (1, true), (2, false), (3, false)] (by kernel_rfl) ?_
    have h13 := h8.drew
    refine Plan.loadA1 h13 2 rfl rfl rfl FField.agg28 ?_
    refine Plan.loadA1 h13 3 rfl rfl rfl FField.agg28 ?_
    refine Plan.storeP (ps := [(5, fun q => VU .u64 (bl3 q))]) h13 rfl rfl rfl (.cons 1 rfl .nil) ⟨fun _ _ => rfl, trivial⟩ FField.sz28 (EffO.mix _ (Filt.keep rfl (Filt.drop rfl Filt.nil)) (PIn.cons 3 rfl PIn.nil)) fun w14 h14 => ?_
    simp only [List.cons_append, List.nil_append, List.set_cons_zero, List.set_cons_succ] at h14
    refine Plan.storeA (f' := fun q => VU .u64 (al2 q)) h14 0 rfl rfl rfl rfl (fun _ _ => rfl) FField.sz28 rfl fun w15 h15 => ?_
    simp only [List.cons_append, List.nil_append, List.set_cons_zero, List.set_cons_succ] at h15
    refine Plan.nil ?_
    refine hK12 _ _ ?_; clear hK12
    refine W.ret (thenR_ret (finR_ret ?_))
    have h16 := St.pickT (C := [_, _, _, _]) h15 [] (by decide)
    simp only [pick, List.filterMap_cons, List.filterMap_nil, List.getElem?_cons_zero, List.getElem?_cons_succ, List.cons_append, List.nil_append] at h16
    subst r
    refine RetOk.mk (.agg h15 rfl (.cons 1 rfl .nil) FField.agg28 (.agg h15 rfl (.cons 0 rfl .nil) FField.agg28 .nil)) ?_
    exact ⟨rfl, h16⟩
  ·
    replace hR := ifF hR hc11
    refine W.condF (congrArg Value.bool (decide_eq_false hc11)) ?_
    refine W.skip ?_
    refine hK9 _ _ ?_; clear hK9
    refine W.seq_k fun K17 hK17 => ?_
    refine W.regionD FField.mixed [(0, true), (1, true), (2, false), (3, false)] (by kernel_rfl) ?_
    have h18 := h8.drew
    refine Plan.loadA1 h18 3 rfl rfl rfl FField.agg28 ?_
    refine Plan.loadA1 h18 2 rfl rfl rfl FField.agg28 ?_
    refine Plan.storeP (ps := [(5, fun q => VU .u64 (al2 q))]) h18 rfl rfl rfl (.cons 1 rfl .nil) ⟨fun _ _ => rfl, trivial⟩ FField.sz28 (EffO.mix _ (Filt.keep rfl (Filt.drop rfl Filt.nil)) (PIn.cons 2 rfl PIn.nil)) fun w19 h19 => ?_
    simp only [List.cons_append, List.nil_append, List.set_cons_zero, List.set_cons_succ] at h19
    refine Plan.storeA (f' := fun q => VU .u64 (bl3 q)) h19 0 rfl rfl rfl rfl (fun _ _ => rfl) FField.sz28 rfl fun w20 h20 => ?_
    simp only [List.cons_append, List.nil_append, List.set_cons_zero, List.set_cons_succ] at h20
    refine Plan.nil ?_
    refine hK17 _ _ ?_; clear hK17
    refine W.ret (finR_ret ?_)
    have h21 := St.pickT (C := [_, _, _, _]) h20 [] (by decide)
    simp only [pick, List.filterMap_cons, List.filterMap_nil, List.getElem?_cons_zero, List.getElem?_cons_succ, List.cons_append, List.nil_append] at h21
    subst r
    refine RetOk.mk (.agg h20 rfl (.cons 1 rfl .nil) FField.agg28 (.agg h20 rfl (.cons 0 rfl .nil) FField.agg28 .nil)) ?_
    exact ⟨rfl, h21⟩

end Go.Proofs.YtjblfkmmbpcpaaaDoor
