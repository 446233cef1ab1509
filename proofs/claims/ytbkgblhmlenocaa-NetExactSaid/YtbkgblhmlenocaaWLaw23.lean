/-
  WALKS of the package's functions, printed by this session's own program (auto.py).
-/
import Derived.Test.YtbkgblhmlenocaaProg
import Derived.Test.YtbkgblhmlenocaaEd
import Derived.Test.YtbkgblhmlenocaaRLaw23
import Derived.Test.YtbkgblhmlenocaaEls
import Derived.Test.YtbkgblhmlenocaaWNet
import Derived.Test.YtbkgblhmlenocaaWRef23
namespace Go.Proofs.Ytbkgblhmlenocaa
set_option linter.unusedSimpArgs false
set_option linter.unusedVariables false
set_option linter.unusedSectionVars false
open Go Go.LW
theorem FLaw23.fld89_0 : fieldB Try.prog 89 0 0 = true := by kernel_rfl
theorem FLaw23.sc3 : scalarT Try.prog 3 = true := by kernel_rfl
theorem FLaw23.slu23 : Try.prog.underlying 23 = some (.slice 5) := by kernel_rfl
theorem FLaw23.sz5 : szT Try.prog 5 1 = true := by kernel_rfl
theorem FLaw23.fld89_4 : fieldB Try.prog 89 4 4 = true := by kernel_rfl
theorem FLaw23.sc23 : scalarT Try.prog 23 = true := by kernel_rfl
theorem FLaw23.el23 : elD Try.prog 23 = some (1, 1, some (VU .u8 0#8)) := by kernel_rfl
theorem FLaw23.sl23 : slB Try.prog 23 1 = true := by kernel_rfl
theorem FLaw23.fld89_2 : fieldB Try.prog 89 2 2 = true := by kernel_rfl
theorem FLaw23.fld89_3 : fieldB Try.prog 89 3 3 = true := by kernel_rfl
theorem FLaw23.mixed : Try.prog.follows .mixedOrders = true := by kernel_rfl
theorem FLaw23.z60 : zeroIs Try.prog 60 [(1, fun _ => .int .i64 0), (1, fun _ => .int .i64 0), (1, fun _ => .int .i64 0), (1, fun _ => .slice none 0 0)] := zeroIs_agg (by kernel_rfl)
theorem FLaw23.call30 : callB Try.prog 30 = true := by kernel_rfl
theorem FLaw23.isl57 : ∃ el, Try.prog.underlying 57 = some (.slice el) := ⟨60, by kernel_rfl⟩
theorem FLaw23.agg60 : aggT Try.prog 60 4 = true := by kernel_rfl
theorem FLaw23.fld60_3 : fieldB Try.prog 60 3 3 = true := by kernel_rfl
theorem FLaw23.sz60 : szT Try.prog 60 4 = true := by kernel_rfl
theorem FLaw23.fld60_0 : fieldB Try.prog 60 0 0 = true := by kernel_rfl
theorem FLaw23.call72 : callB Try.prog 72 = true := by kernel_rfl
theorem FLaw23.u5 : Try.prog.underlying 5 = some (.int .u8) := by kernel_rfl
theorem FLaw23.str9 : Try.prog.underlying 9 = some .string := by kernel_rfl
theorem FLaw23.isl23 : ∃ el, Try.prog.underlying 23 = some (.slice el) := ⟨5, by kernel_rfl⟩
theorem FLaw23.sc5 : scalarT Try.prog 5 = true := by kernel_rfl
theorem FLaw23.fld89_1 : fieldB Try.prog 89 1 1 = true := by kernel_rfl
theorem FLaw23.call34 : callB Try.prog 34 = true := by kernel_rfl
theorem FLaw23.sl57 : slB Try.prog 57 4 = true := by kernel_rfl
theorem FLaw23.call73 : callB Try.prog 73 = true := by kernel_rfl
theorem FLaw23.fld60_1 : fieldB Try.prog 60 1 1 = true := by kernel_rfl
theorem FLaw23.fld60_2 : fieldB Try.prog 60 2 2 = true := by kernel_rfl
theorem FLaw23.call69 : callB Try.prog 69 = true := by kernel_rfl
theorem FLaw23.call48 : callB Try.prog 48 = true := by kernel_rfl
theorem FLaw23.call74 : callB Try.prog 74 = true := by kernel_rfl
theorem FLaw23.call31 : callB Try.prog 31 = true := by kernel_rfl
theorem FLaw23.call75 : callB Try.prog 75 = true := by kernel_rfl
theorem FLaw23.call32 : callB Try.prog 32 = true := by kernel_rfl
theorem FLaw23.call44 : callB Try.prog 44 = true := by kernel_rfl
theorem FLaw23.call43 : callB Try.prog 43 = true := by kernel_rfl
theorem FLaw23.call45 : callB Try.prog 45 = true := by kernel_rfl
theorem FLaw23.call46 : callB Try.prog 46 = true := by kernel_rfl

set_option maxRecDepth 8000 in
set_option maxHeartbeats 1000000 in
theorem lethelaw23_same_ok {B : Nat} {w0 : Base} {w : World} {L : List Rg} {aNumber1 : Int} {aFrom2 : Int} {aTo3 : Int} {aBytes4 : List Byte} {aaBytes4 : Option Addr} {naBytes4 caBytes4 iaBytes4 : Nat} (haBytes4 : Bx L iaBytes4 aaBytes4 naBytes4 caBytes4 aBytes4) {bNumber5 : Int} {bFrom6 : Int} {bTo7 : Int} {bBytes8 : List Byte} {abBytes8 : Option Addr} {nbBytes8 cbBytes8 ibBytes8 : Nat} (hbBytes8 : Bx L ibBytes8 abBytes8 nbBytes8 cbBytes8 bBytes8) {r : Bool} (hR : lethelaw23_same aNumber1 aFrom2 aTo3 aBytes4 bNumber5 bFrom6 bTo7 bBytes8 r) (HST : St B w0 (L) w) :
    Calls Try.prog 69 #[AG [(1, fun _ => .int .i64 aNumber1), (1, fun _ => .int .i64 aFrom2), (1, fun _ => .int .i64 aTo3), (1, fun _ => .slice aaBytes4 naBytes4 caBytes4)], AG [(1, fun _ => .int .i64 bNumber5), (1, fun _ => .int .i64 bFrom6), (1, fun _ => .int .i64 bTo7), (1, fun _ => .slice abBytes8 nbBytes8 cbBytes8)]] w fun e w' => e = .returned (.bool r) ∧ St B w0 (L) w' := by
  refine W.enter 33 Try.func69 rfl rfl rfl ?_
  unfold lethelaw23_same at hR
  have eaBytes4 := haBytes4.hl; subst eaBytes4
  have ebBytes8 := hbBytes8.hl; subst ebBytes8
  refine W.seq_k fun K9 hK9 => ?_
  refine W.regionT [(0, false), (1, false), (2, true)] (by kernel_rfl) ?_
  refine Plan.boxA HST rfl rfl PIn.nil fun b10 w10 hb10 h10 => ?_
  simp only [rngs, Nat.zero_add, Nat.reduceAdd, List.cons_append, List.nil_append] at h10
  refine Plan.boxA h10 rfl rfl PIn.nil fun b11 w11 hb11 h11 => ?_
  simp only [rngs, Nat.zero_add, Nat.reduceAdd, List.cons_append, List.nil_append] at h11
  refine Plan.assign_bool rfl rfl ?_
  refine Plan.nil ?_
  refine hK9 _ _ ?_; clear hK9
  refine W.seq_k fun K12 hK12 => ?_
  refine W.regionT [(0, true), (1, true), (2, true), (3, true), (4, true), (5, true), (6, true), (7, true), (8, true), (9, true), (10, true), (11, true), (12, true), (13, true), (14, true), (15, true), (16, true), (17, true), (18, true), (19, true), (20, true), (21, true), (22, true), (23, true), (24, true), (25, true), (26, true), (27, true), (28, true)] (by kernel_rfl) ?_
  refine Plan.fieldAddr0 FLaw23.fld60_0 rfl rfl ?_
  refine Plan.load0 h11 4 rfl rfl rfl (by omega) FLaw23.sc3 ?_
  refine Plan.fieldAddr0 FLaw23.fld60_0 rfl rfl ?_
  refine Plan.load0 h11 0 rfl rfl rfl (by omega) FLaw23.sc3 ?_
  by_cases hc13 : aNumber1 = bNumber5
  ·
    replace hR := ifT hR hc13
    refine Plan.cmpV (a := (aNumber1 : Int)) (b := (bNumber5 : Int)) (p := aNumber1 = bNumber5) (v := true) rfl rfl rfl rfl icmp_eq (decide_eq_true hc13) ?_
    refine Plan.move_bool rfl rfl ?_
    refine Plan.fieldAddr 1 FLaw23.fld60_1 rfl rfl ?_
    refine Plan.load0 h11 5 rfl rfl rfl (by omega) FLaw23.sc3 ?_
    refine Plan.fieldAddr 1 FLaw23.fld60_1 rfl rfl ?_
    refine Plan.load0 h11 1 rfl rfl rfl (by omega) FLaw23.sc3 ?_
    by_cases hc14 : aFrom2 = bFrom6
    ·
      replace hR := ifT hR hc14
      refine Plan.cmpV (a := (aFrom2 : Int)) (b := (bFrom6 : Int)) (p := aFrom2 = bFrom6) (v := true) rfl rfl rfl rfl icmp_eq (decide_eq_true hc14) ?_
      refine Plan.pickTb rfl rfl rfl ?_
      refine Plan.move_bool rfl rfl ?_
      refine Plan.fieldAddr 2 FLaw23.fld60_2 rfl rfl ?_
      refine Plan.load0 h11 6 rfl rfl rfl (by omega) FLaw23.sc3 ?_
      refine Plan.fieldAddr 2 FLaw23.fld60_2 rfl rfl ?_
      refine Plan.load0 h11 2 rfl rfl rfl (by omega) FLaw23.sc3 ?_
      by_cases hc15 : aTo3 = bTo7
      ·
        replace hR := ifT hR hc15
        refine Plan.cmpV (a := (aTo3 : Int)) (b := (bTo7 : Int)) (p := aTo3 = bTo7) (v := true) rfl rfl rfl rfl icmp_eq (decide_eq_true hc15) ?_
        refine Plan.pickTb rfl rfl rfl ?_
        refine Plan.move_bool rfl rfl ?_
        refine Plan.fieldAddr 3 FLaw23.fld60_3 rfl rfl ?_
        refine Plan.load0 h11 7 rfl rfl rfl (by omega) FLaw23.sc23 ?_
        refine Plan.toStrV h11 (haBytes4.app [_, _, _, _, _, _, _, _]) FLaw23.slu23 FLaw23.u5 FLaw23.str9 rfl rfl fun r16 hr16 => ?_
        replace hr16 := or_un [_, _, _, _, _, _, _, _] hr16
        refine Plan.fieldAddr 3 FLaw23.fld60_3 rfl rfl ?_
        refine Plan.load0 h11 3 rfl rfl rfl (by omega) FLaw23.sc23 ?_
        refine Plan.toStrV h11 (hbBytes8.app [_, _, _, _, _, _, _, _]) FLaw23.slu23 FLaw23.u5 FLaw23.str9 rfl rfl fun r17 hr17 => ?_
        replace hr17 := or_un [_, _, _, _, _, _, _, _] hr17
        refine Plan.eqStrV (v := decide (aBytes4 = bBytes8)) rfl rfl rfl rfl ?_
        refine Plan.pickTb rfl rfl rfl ?_
        refine Plan.assign_bool rfl rfl ?_
        refine Plan.nil ?_
        refine hK12 _ _ ?_; clear hK12
        refine W.ret (finR_ret ?_)
        have h18 := St.pickT (C := [_, _, _, _, _, _, _, _]) h11 [] (by decide)
        simp only [pick, List.filterMap_cons, List.filterMap_nil, List.getElem?_cons_zero, List.getElem?_cons_succ, List.cons_append, List.nil_append] at h18
        subst r
        refine RetOk.mk (.tmp_bool rfl .nil) ?_
        exact ⟨rfl, h18⟩
      ·
        replace hR := ifF hR hc15
        refine Plan.cmpV (a := (aTo3 : Int)) (b := (bTo7 : Int)) (p := aTo3 = bTo7) (v := false) rfl rfl rfl rfl icmp_eq (decide_eq_false hc15) ?_
        refine Plan.pickTb rfl rfl rfl ?_
        refine Plan.move_bool rfl rfl ?_
        refine Plan.passed rfl ?_
        refine Plan.passed rfl ?_
        refine Plan.passed rfl ?_
        refine Plan.passed rfl ?_
        refine Plan.passed rfl ?_
        refine Plan.passed rfl ?_
        refine Plan.passed rfl ?_
        refine Plan.pickFb rfl rfl rfl ?_
        refine Plan.assign_bool rfl rfl ?_
        refine Plan.nil ?_
        refine hK12 _ _ ?_; clear hK12
        refine W.ret (finR_ret ?_)
        have h19 := St.pickT (C := [_, _, _, _, _, _, _, _]) h11 [] (by decide)
        simp only [pick, List.filterMap_cons, List.filterMap_nil, List.getElem?_cons_zero, List.getElem?_cons_succ, List.cons_append, List.nil_append] at h19
        subst r
        refine RetOk.mk (.tmp_bool rfl .nil) ?_
        exact ⟨rfl, h19⟩
    ·
      replace hR := ifF hR hc14
      refine Plan.cmpV (a := (aFrom2 : Int)) (b := (bFrom6 : Int)) (p := aFrom2 = bFrom6) (v := false) rfl rfl rfl rfl icmp_eq (decide_eq_false hc14) ?_
      refine Plan.pickTb rfl rfl rfl ?_
      refine Plan.move_bool rfl rfl ?_
      refine Plan.passed rfl ?_
      refine Plan.passed rfl ?_
      refine Plan.passed rfl ?_
      refine Plan.passed rfl ?_
      refine Plan.passed rfl ?_
      refine Plan.pickFb rfl rfl rfl ?_
      refine Plan.move_bool rfl rfl ?_
      refine Plan.passed rfl ?_
      refine Plan.passed rfl ?_
      refine Plan.passed rfl ?_
      refine Plan.passed rfl ?_
      refine Plan.passed rfl ?_
      refine Plan.passed rfl ?_
      refine Plan.passed rfl ?_
      refine Plan.pickFb rfl rfl rfl ?_
      refine Plan.assign_bool rfl rfl ?_
      refine Plan.nil ?_
      refine hK12 _ _ ?_; clear hK12
      refine W.ret (finR_ret ?_)
      have h20 := St.pickT (C := [_, _, _, _, _, _, _, _]) h11 [] (by decide)
      simp only [pick, List.filterMap_cons, List.filterMap_nil, List.getElem?_cons_zero, List.getElem?_cons_succ, List.cons_append, List.nil_append] at h20
      subst r
      refine RetOk.mk (.tmp_bool rfl .nil) ?_
      exact ⟨rfl, h20⟩
  ·
    replace hR := ifF hR hc13
    refine Plan.cmpV (a := (aNumber1 : Int)) (b := (bNumber5 : Int)) (p := aNumber1 = bNumber5) (v := false) rfl rfl rfl rfl icmp_eq (decide_eq_false hc13) ?_
    refine Plan.move_bool rfl rfl ?_
    refine Plan.passed rfl ?_
    refine Plan.passed rfl ?_
    refine Plan.passed rfl ?_
    refine Plan.passed rfl ?_
    refine Plan.passed rfl ?_
    refine Plan.pickFb rfl rfl rfl ?_
    refine Plan.move_bool rfl rfl ?_
    refine Plan.passed rfl ?_
    refine Plan.passed rfl ?_
    refine Plan.passed rfl ?_
    refine Plan.passed rfl ?_
    refine Plan.passed rfl ?_
    refine Plan.pickFb rfl rfl rfl ?_
    refine Plan.move_bool rfl rfl ?_
    refine Plan.passed rfl ?_
    refine Plan.passed rfl ?_
    refine Plan.passed rfl ?_
    refine Plan.passed rfl ?_
    refine Plan.passed rfl ?_
    refine Plan.passed rfl ?_
    refine Plan.passed rfl ?_
    refine Plan.pickFb rfl rfl rfl ?_
    refine Plan.assign_bool rfl rfl ?_
    refine Plan.nil ?_
    refine hK12 _ _ ?_; clear hK12
    refine W.ret (finR_ret ?_)
    have h21 := St.pickT (C := [_, _, _, _, _, _, _, _]) h11 [] (by decide)
    simp only [pick, List.filterMap_cons, List.filterMap_nil, List.getElem?_cons_zero, List.getElem?_cons_succ, List.cons_append, List.nil_append] at h21
    subst r
    refine RetOk.mk (.tmp_bool rfl .nil) ?_
    exact ⟨rfl, h21⟩


set_option maxRecDepth 8000 in
set_option maxHeartbeats 1000000 in
theorem lethelaw23_sameAll_ok {B : Nat} {w0 : Base} {w : World} {L : List Rg} {a1 : List (Int × Int × Int × (List Byte))} {aa1 : Option Addr} {na1 ca1 ia1 : Nat} (ha1 : LV (D60.at L) L ia1 aa1 na1 ca1 a1) {b2 : List (Int × Int × Int × (List Byte))} {ab2 : Option Addr} {nb2 cb2 ib2 : Nat} (hb2 : LV (D60.at L) L ib2 ab2 nb2 cb2 b2) {r : Bool} (hR : lethelaw23_sameAll a1 b2 r) (HST : St B w0 (L) w) :
    Calls Try.prog 43 #[.slice aa1 na1 ca1, .slice ab2 nb2 cb2] w fun e w' => e = .returned (.bool r) ∧ St B w0 (L) w' := by
  refine W.enter 27 Try.func43 rfl rfl rfl ?_
  unfold lethelaw23_sameAll at hR
  have ea1 := ha1.hl; subst ea1
  have eb2 := hb2.hl; subst eb2
  refine W.seq_k fun K3 hK3 => ?_
  refine W.regionT [(0, true)] (by kernel_rfl) ?_
  refine Plan.assign_bool rfl rfl ?_
  refine Plan.nil ?_
  refine hK3 _ _ ?_; clear hK3
  refine W.seq_k fun K4 hK4 => ?_
  refine W.seq_k fun K5 hK5 => ?_
  refine W.regionT [(0, true), (1, true), (2, true), (3, true), (4, true)] (by kernel_rfl) ?_
  refine Plan.move_slice rfl rfl ?_
  refine Plan.len FLaw23.isl57 rfl rfl ?_
  refine Plan.move_slice rfl rfl ?_
  refine Plan.len FLaw23.isl57 rfl rfl ?_
  refine Plan.cmpP (a := (((a1.length : Nat) : Int) : Int)) (b := (((b2.length : Nat) : Int) : Int)) (p := a1.length ≠ b2.length) rfl rfl rfl rfl icmp_neN ?_
  refine Plan.nil ?_
  refine hK5 _ _ ?_; clear hK5
  by_cases hc6 : a1.length ≠ b2.length
  ·
    replace hR := ifT hR hc6
    refine W.condT (congrArg Value.bool (decide_eq_true hc6)) ?_
    refine W.seq_k fun K7 hK7 => ?_
    refine W.regionT [(0, true)] (by kernel_rfl) ?_
    refine Plan.assign_bool rfl rfl ?_
    refine Plan.nil ?_
    refine hK7 _ _ ?_; clear hK7
    refine W.ret (thenR_ret (finR_ret ?_))
    subst r
    refine RetOk.mk (.tmp_bool rfl .nil) ?_
    exact ⟨rfl, HST⟩
  ·
    replace hR := ifF hR hc6
    refine W.condF (congrArg Value.bool (decide_eq_false hc6)) ?_
    refine W.skip ?_
    refine hK4 _ _ ?_; clear hK4
    refine W.seq_k fun K8 hK8 => ?_
    refine W.seq_k fun K9 hK9 => ?_
    refine W.regionT [(0, true)] (by kernel_rfl) ?_
    refine Plan.assign_int rfl rfl ?_
    refine Plan.nil ?_
    refine hK9 _ _ ?_; clear hK9
    obtain ⟨x43, hI43, hR043⟩ := hR
    refine W.cutN (fun e w => x43 = some () ∧ EnvHas e [] ∧ St B w0 (L) w) ?_ ?_
    ·
      refine W.block ?_
      refine W.iter hI43 (fun (s43 : Nat) e w => EnvHas e [(0, .slice aa1 a1.length ca1), (1, .slice ab2 b2.length cb2), (5, VN s43)] ∧ St B w0 (L) w) ⟨(EnvHas.cons rfl (EnvHas.cons rfl (EnvHas.cons rfl EnvHas.nil))), HST⟩ ?_
      rintro i_42 o43 hR hx43 ev44 wl44 ⟨he44, h44⟩
      obtain ⟨ev44, rfl⟩ := he44.open
      unfold lethelaw23_sameAll_l0 at hR
      refine W.seq_k fun K45 hK45 => ?_
      refine W.seq_k fun K46 hK46 => ?_
      refine W.regionT [(0, true), (1, true), (2, true), (3, true)] (by kernel_rfl) ?_
      refine Plan.move_int rfl rfl ?_
      refine Plan.move_slice rfl rfl ?_
      refine Plan.len FLaw23.isl57 rfl rfl ?_
      refine Plan.cmpP (a := (((i_42 : Nat) : Int) : Int)) (b := (((a1.length : Nat) : Int) : Int)) (p := i_42 < a1.length) rfl rfl rfl rfl icmp_ltN ?_
      refine Plan.nil ?_
      refine hK46 _ _ ?_; clear hK46
      by_cases hc47 : i_42 < a1.length
      ·
        replace hR := ifT hR hc47
        refine W.condT (congrArg Value.bool (decide_eq_true hc47)) ?_
        refine W.skip ?_
        refine hK45 _ _ ?_; clear hK45
        refine W.seq_k fun K48 hK48 => ?_
        refine W.block ?_
        refine W.seq_k fun K49 hK49 => ?_
        refine W.regionD FLaw23.mixed [(0, true), (1, true), (2, true), (3, true), (4, true), (5, true), (6, true), (7, true), (8, false), (9, true)] (by kernel_rfl) ?_
        have h50 := h44.drew
        refine Plan.move_slice rfl rfl ?_
        refine Plan.move_int rfl rfl ?_
        obtain ⟨hc51, hR⟩ := hR
        refine Plan.idxLVS (D := (D60.at L)) (j := i_42) h50 ha1 FLaw23.sl57 rfl rfl rfl hc51 ?_
        refine Plan.loadLV (D := (D60.at L)) (X := a1) (j := i_42) (sz := 4) h50 ((0 : Int), (0 : Int), (0 : Int), ([] : List Byte)) ha1 rfl rfl hc51 rfl FLaw23.agg60 fun b52 r52 hs52 hr52 => ?_
        obtain ⟨i52_3, hv52_3⟩ := hs52
        refine Plan.move_slice rfl rfl ?_
        refine Plan.move_int rfl rfl ?_
        obtain ⟨hc53, hR⟩ := hR
        refine Plan.idxLVS (D := (D60.at L)) (j := i_42) h50 hb2 FLaw23.sl57 rfl rfl rfl hc53 ?_
        refine Plan.loadLV (D := (D60.at L)) (X := b2) (j := i_42) (sz := 4) h50 ((0 : Int), (0 : Int), (0 : Int), ([] : List Byte)) hb2 rfl rfl hc53 rfl FLaw23.agg60 fun b54 r54 hs54 hr54 => ?_
        obtain ⟨i54_3, hv54_3⟩ := hs54
        obtain ⟨x_56, hr55, hR⟩ := hR
        refine Plan.call (vs := [AG [(1, fun _ => .int .i64 ((a1.getD i_42 ((0 : Int), (0 : Int), (0 : Int), ([] : List Byte))).1)), (1, fun _ => .int .i64 ((a1.getD i_42 ((0 : Int), (0 : Int), (0 : Int), ([] : List Byte))).2.1)), (1, fun _ => .int .i64 ((a1.getD i_42 ((0 : Int), (0 : Int), (0 : Int), ([] : List Byte))).2.2.1)), (1, fun _ => .slice ((b52).1) (((a1.getD i_42 ((0 : Int), (0 : Int), (0 : Int), ([] : List Byte))).2.2.2).length) ((b52).2))], AG [(1, fun _ => .int .i64 ((b2.getD i_42 ((0 : Int), (0 : Int), (0 : Int), ([] : List Byte))).1)), (1, fun _ => .int .i64 ((b2.getD i_42 ((0 : Int), (0 : Int), (0 : Int), ([] : List Byte))).2.1)), (1, fun _ => .int .i64 ((b2.getD i_42 ((0 : Int), (0 : Int), (0 : Int), ([] : List Byte))).2.2.1)), (1, fun _ => .slice ((b54).1) (((b2.getD i_42 ((0 : Int), (0 : Int), (0 : Int), ([] : List Byte))).2.2.2).length) ((b54).2))]]) rfl FLaw23.call69 rfl (lethelaw23_same_ok hv52_3 hv54_3 hr55 h50) ?_
        rintro _ w57 ⟨rfl, h57⟩
        refine ⟨_, rfl, .inr ⟨rfl, ?_⟩⟩
        refine Plan.not rfl rfl ?_
        refine Plan.nil ?_
        refine hK49 _ _ ?_; clear hK49
        by_cases hc58 : x_56 = true
        ·
          replace hR := ifT hR hc58
          refine W.condF (congrArg Value.bool (congrArg Bool.not hc58)) ?_
          refine W.skip ?_
          refine blockR_norm ?_
          refine hK48 _ _ ?_; clear hK48
          refine W.regionT [(0, true), (1, true), (2, true)] (by kernel_rfl) ?_
          refine Plan.move_int rfl rfl ?_
          obtain ⟨hc59, hR⟩ := hR
          refine Plan.addN (a := i_42) (b := 1) rfl rfl rfl (by omega) ?_
          refine Plan.assign_int rfl rfl ?_
          refine Plan.nil ?_
          exact iterR_norm ⟨_, hR, (EnvHas.cons rfl (EnvHas.cons rfl (EnvHas.cons rfl EnvHas.nil))), h57⟩
        ·
          replace hR := ifF hR hc58
          refine W.condT (congrArg Value.bool (congrArg Bool.not (Bool.eq_false_iff.2 hc58))) ?_
          refine W.seq_k fun K60 hK60 => ?_
          refine W.regionT [(0, true)] (by kernel_rfl) ?_
          refine Plan.assign_bool rfl rfl ?_
          refine Plan.nil ?_
          refine hK60 _ _ ?_; clear hK60
          refine W.ret (blockR_ret (thenR_ret (iterR_ret (blockR_ret (thenR_ret (thenR_ret (finR_ret ?_)))))))
          replace hR := hR.2
          subst r
          refine RetOk.mk (.tmp_bool rfl .nil) ?_
          exact ⟨rfl, h57⟩
      ·
        replace hR := ifF hR hc47
        refine W.condF (congrArg Value.bool (decide_eq_false hc47)) ?_
        refine W.exit (thenR_exit (iterR_exit (blockR_here ?_)))
        exact ⟨(hx43 _ hR).symm, EnvHas.nil, h44⟩
    ·
      rintro ev61 wl61 ⟨hy61, he61, h61⟩
      obtain ⟨ev61, rfl⟩ := he61.open
      replace hR := hR043  hy61
      refine hK8 _ _ ?_; clear hK8
      refine W.seq_k fun K62 hK62 => ?_
      refine W.regionT [(0, true)] (by kernel_rfl) ?_
      refine Plan.assign_bool rfl rfl ?_
      refine Plan.nil ?_
      refine hK62 _ _ ?_; clear hK62
      refine W.ret (finR_ret ?_)
      subst r
      refine RetOk.mk (.tmp_bool rfl .nil) ?_
      exact ⟨rfl, h61⟩


set_option maxRecDepth 8000 in
set_option maxHeartbeats 1000000 in
theorem lethelaw23_step_ok {B : Nat} {w0 : Base} {w : World} {L : List Rg} {LP : List Rg} (hLP : ∀ r ∈ LP, r ∈ L) {bn_1 : Nat} {nnodes2 : Int} {nmost3 : Int} {nflights4 : List (Int × (Int × Int × Int × (List Byte)))} {mnflights4 : Nat} {nnext5 : Int} {br_6 : Nat} {rNodes7 : Int} {rMost8 : Int} {rRow9 : List (Int × Int × Int × (List Byte))} {arRow9 : Option Addr} {prRow9 : Option Nat} {nrRow9 crRow9 : Nat} {FrRow9 : Nat → Value} (hrRow9 : LO (D60.at LP) [] arRow9 prRow9 nrRow9 crRow9 FrRow9 rRow9) {rNumber10 : Int} {oKind11 : Int} {oK12 : Int} {oFrom13 : Int} {oTo14 : Int} {oBytes15 : List Byte} {aoBytes15 : Option Addr} {noBytes15 coBytes15 : Nat} (qoBytes15 : ∃ i, Bx LP i aoBytes15 noBytes15 coBytes15 oBytes15) {r : (Bool × Int × (List (Int × Int × Int × (List Byte))) × Int × (List (Int × (Int × Int × Int × (List Byte)))))} (hR : lethelaw23_step nnodes2 nmost3 nflights4 nnext5 rNodes7 rMost8 rRow9 rNumber10 oKind11 oK12 oFrom13 oTo14 oBytes15 r) (HST : St B (w0.on [mapR kvI (D60.at LP) [] mnflights4 nflights4]) (⟨some bn_1, 0, 1, fun _ => .int .i64 nnodes2, true⟩ :: ⟨some bn_1, 1, 1, fun _ => .int .i64 nmost3, true⟩ :: ⟨some bn_1, 2, 1, fun _ => .map (some mnflights4), true⟩ :: ⟨some bn_1, 3, 1, fun _ => .int .i64 nnext5, true⟩ :: ⟨some br_6, 0, 1, fun _ => .int .i64 rNodes7, true⟩ :: ⟨some br_6, 1, 1, fun _ => .int .i64 rMost8, true⟩ :: ⟨some br_6, 2, 1, fun _ => .slice arRow9 nrRow9 crRow9, true⟩ :: ⟨prRow9, 0, crRow9 * 4, FrRow9, true⟩ :: ⟨some br_6, 3, 1, fun _ => .int .i64 rNumber10, true⟩ :: L) w) :
    Calls Try.prog 42 #[.pointer (some ⟨bn_1, 0, none⟩), .pointer (some ⟨br_6, 0, none⟩), AG [(1, fun _ => .int .i64 oKind11), (1, fun _ => .int .i64 oK12), (1, fun _ => .int .i64 oFrom13), (1, fun _ => .int .i64 oTo14), (1, fun _ => .slice aoBytes15 noBytes15 coBytes15)]] w fun e w' => ∃ C : List Rg, ∃ aqrRow9 : Option Addr, ∃ pqrRow9 : Option Nat, ∃ nqrRow9 : Nat, ∃ cqrRow9 : Nat, ∃ FqrRow9 : Nat → Value, e = .returned (.bool r.1) ∧ St B (w0.on [mapR kvI (D60.at (C ++ LP)) [] mnflights4 r.2.2.2.2]) (⟨some bn_1, 0, 1, fun _ => .int .i64 nnodes2, true⟩ :: ⟨some bn_1, 1, 1, fun _ => .int .i64 nmost3, true⟩ :: ⟨some bn_1, 2, 1, fun _ => .map (some mnflights4), true⟩ :: ⟨some bn_1, 3, 1, fun _ => .int .i64 r.2.1, true⟩ :: ⟨some br_6, 0, 1, fun _ => .int .i64 rNodes7, true⟩ :: ⟨some br_6, 1, 1, fun _ => .int .i64 rMost8, true⟩ :: ⟨some br_6, 2, 1, fun _ => .slice aqrRow9 nqrRow9 cqrRow9, true⟩ :: ⟨pqrRow9, 0, cqrRow9 * 4, FqrRow9, true⟩ :: ⟨some br_6, 3, 1, fun _ => .int .i64 r.2.2.2.1, true⟩ :: (C ++ L)) w' ∧ LO (D60.at (C ++ LP)) [] aqrRow9 pqrRow9 nqrRow9 cqrRow9 FqrRow9 r.2.2.1 := by
  refine W.enter 151 Try.func42 rfl rfl rfl ?_
  unfold lethelaw23_step at hR
  have hFr : Fr2 L LP L LP := Fr2.refl _ _
  have erRow9 := hrRow9.hl; subst erRow9
  have eoBytes15 := qoBytes15.choose_spec.hl; subst eoBytes15
  obtain ⟨ioBytes15, hoBytes15⟩ := Bx.lift qoBytes15.choose_spec hLP
  refine W.seq_k fun K16 hK16 => ?_
  refine W.regionT [(0, false), (1, true)] (by kernel_rfl) ?_
  refine Plan.boxA HST rfl rfl PIn.nil fun b17 w17 hb17 h17 => ?_
  simp only [rngs, Nat.zero_add, Nat.reduceAdd, List.cons_append, List.nil_append] at h17
  refine Plan.assign_bool rfl rfl ?_
  refine Plan.nil ?_
  refine hK16 _ _ ?_; clear hK16
  refine W.seq_k fun K18 hK18 => ?_
  refine W.seq_k fun K19 hK19 => ?_
  refine W.regionT [(0, true), (1, true)] (by kernel_rfl) ?_
  refine Plan.fieldAddr0 FLaw23.fld89_0 rfl rfl ?_
  refine Plan.load0 h17 0 rfl rfl rfl (by omega) FLaw23.sc3 ?_
  refine Plan.nil ?_
  refine hK19 _ _ ?_; clear hK19
  refine W.block ?_
  refine W.seq_k fun K20 hK20 => ?_
  refine W.regionT [(0, true), (1, true)] (by kernel_rfl) ?_
  refine Plan.cmpP (a := (oKind11 : Int)) (b := (1 : Int)) (p := oKind11 = 1) rfl rfl rfl rfl icmp_eq ?_
  refine Plan.assign_bool rfl rfl ?_
  refine Plan.nil ?_
  refine hK20 _ _ ?_; clear hK20
  by_cases hc21 : oKind11 = 1
  ·
    replace hR := ifT hR hc21
    refine W.condT (congrArg Value.bool (decide_eq_true hc21)) ?_
    refine W.seq_k fun K22 hK22 => ?_
    refine W.regionT [(0, false), (1, true), (2, true), (3, false), (4, true)] (by kernel_rfl) ?_
    refine Plan.buildE h17 (fun q => VU .u8 ((fun _ => 0#8 : Nat → Byte) q)) FLaw23.slu23 FLaw23.sz5 rfl (EffO.keep PIn.nil) fun b23 w23 hb23 h23 => ?_
    refine Plan.fieldAddr 4 FLaw23.fld89_4 rfl rfl ?_
    refine Plan.load0 h23 5 rfl rfl rfl (by omega) FLaw23.sc23 ?_
    obtain ⟨hc25, hR⟩ := hR
    refine Plan.appendO (X := ([] : List Byte)) (Y := oBytes15) h23 0 Ow.empty FLaw23.el23 FLaw23.sl23 rfl rfl rfl rfl (hoBytes15.app [_, _, _, _, _, _, _, _, _, _, _, _, _, _, _]) hc25 (fun _ => EffO.wait rfl) fun a24 pb24 cap24 F24 w24 ho24 h24 => ?_
    simp only [List.cons_append, List.nil_append, List.set_cons_zero, List.set_cons_succ] at h24
    refine Plan.assign_slice rfl rfl ?_
    refine Plan.nil ?_
    refine hK22 _ _ ?_; clear hK22
    refine W.seq_k fun K26 hK26 => ?_
    refine W.regionT [(0, true), (1, true), (2, true), (3, true), (4, true), (5, true), (6, false), (7, true), (8, true), (9, true), (10, true), (11, true)] (by kernel_rfl) ?_
    refine Plan.move_ptr rfl rfl ?_
    refine Plan.fieldAddr 2 FLaw23.fld89_2 rfl rfl ?_
    refine Plan.load0 h24 3 rfl rfl rfl (by omega) FLaw23.sc3 ?_
    refine Plan.fieldAddr 3 FLaw23.fld89_3 rfl rfl ?_
    refine Plan.load0 h24 4 rfl rfl rfl (by omega) FLaw23.sc3 ?_
    refine Plan.move_slice rfl rfl ?_
    have h27 := St.pickT (C := [_, _, _, _, _, _, _, _, _, _, _, _, _, _, _]) h24 [6, 7, 8, 9, 0, 1, 2, 3, 4, 5, 10, 11, 12, 13, 14] (by decide)
    simp only [pick, List.filterMap_cons, List.filterMap_nil, List.getElem?_cons_zero, List.getElem?_cons_succ, List.cons_append, List.nil_append] at h27
    obtain ⟨x_29, x_30, x_31, x_32, hr28, hR⟩ := hR
    refine Plan.call (vs := [.pointer (some ⟨bn_1, 0, none⟩), .int .i64 oFrom13, .int .i64 oTo14, .slice a24 ((([] : List Byte) ++ oBytes15).length) cap24]) rfl FLaw23.call30 rfl (net_Net_Send_ok (w0 := w0) (LP := LP) (by exact fun r hr => List.mem_append_right [_, _, _, _, _, _, _, _, _, _, _] (hLP r hr)) (by exact (ho24.bx 0 rfl)) hr28 (show St B (w0.on [mapR kvI (D60.at LP) [] mnflights4 nflights4]) _ _ from h27)) ?_
    rintro _ w33 ⟨C33, rfl, h33⟩
    replace h33 : St B (w0.on [mapR kvI (D60.at (C33 ++ LP)) [] mnflights4 x_32]) _ _ := h33
    replace h33 := St.pool (N := [_, _, _, _]) (R := [_, _, _, _, _, _, _, _, _, _, _]) h33
    obtain ⟨L, hL34⟩ : ∃ X, X = C33 ++ L := ⟨_, rfl⟩
    obtain ⟨LP, hQ34⟩ : ∃ X, X = C33 ++ LP := ⟨_, rfl⟩
    replace hLP : ∀ r ∈ LP, r ∈ L := by rw [hQ34, hL34]; exact frMemGrow hLP
    have h34 := St.re (N := [_, _, _, _, _, _, _, _, _, _, _, _, _, _, _]) hL34 h33
    simp only [List.cons_append, List.nil_append] at h34
    replace hFr : Fr2 _ _ L LP := hFr.step hL34 hQ34
    obtain ⟨ix35, hv35⟩ : ∃ i, Bx L i aoBytes15 oBytes15.length coBytes15 oBytes15 := ⟨_, by rw [hL34]; exact hoBytes15.app _⟩
    have hp35 : ∃ i, Bx LP i aoBytes15 oBytes15.length coBytes15 oBytes15 := by rw [hQ34]; exact ⟨_, qoBytes15.choose_spec.app _⟩
    have ho36 : LO (D60.at LP) [] arRow9 prRow9 ((rRow9).length) crRow9 FrRow9 rRow9 := by rw [hQ34]; exact LO.grow D60_lifts (fun r hr => List.mem_append_right _ hr) hrRow9
    have h38 := St.eqM (A' := LP) h34 (i := 0) rfl hQ34
    simp only [List.set_cons_zero, List.set_cons_succ] at h38
    refine ⟨_, rfl, .inr ⟨rfl, ?_⟩⟩
    refine Plan.move_tuple rfl rfl ?_
    refine Plan.extract_int rfl rfl rfl ?_
    refine Plan.extract_int rfl rfl rfl ?_
    refine Plan.assign_int rfl rfl ?_
    refine Plan.assign_int rfl rfl ?_
    refine Plan.nil ?_
    refine hK26 _ _ ?_; clear hK26
    refine W.seq_k fun K39 hK39 => ?_
    refine W.regionT [(0, true), (1, true), (2, true), (3, true), (4, true), (5, true), (6, true), (7, false), (8, true), (9, true), (10, true), (11, true), (12, true)] (by kernel_rfl) ?_
    refine Plan.move_ptr rfl rfl ?_
    refine Plan.fieldAddr 2 FLaw23.fld89_2 rfl rfl ?_
    refine Plan.load0 h38 7 rfl rfl rfl (by omega) FLaw23.sc3 ?_
    refine Plan.fieldAddr 3 FLaw23.fld89_3 rfl rfl ?_
    refine Plan.load0 h38 8 rfl rfl rfl (by omega) FLaw23.sc3 ?_
    refine Plan.fieldAddr 4 FLaw23.fld89_4 rfl rfl ?_
    refine Plan.load0 h38 9 rfl rfl rfl (by omega) FLaw23.sc23 ?_
    have h40 := St.pickT (C := [_, _, _, _, _, _, _, _, _, _, _, _, _, _, _]) h38 [10, 11, 12, 13, 14, 0, 1, 2, 3, 4, 5, 6, 7, 8, 9] (by decide)
    simp only [pick, List.filterMap_cons, List.filterMap_nil, List.getElem?_cons_zero, List.getElem?_cons_succ, List.cons_append, List.nil_append] at h40
    obtain ⟨x_42, x_43, x_44, x_45, hr41, hR⟩ := hR
    refine Plan.call (vs := [.pointer (some ⟨br_6, 0, none⟩), .int .i64 oFrom13, .int .i64 oTo14, .slice aoBytes15 oBytes15.length coBytes15]) rfl FLaw23.call72 rfl (letheref23_Net_Send_ok (LP := LP) (by exact fun r hr => List.mem_append_right [_, _, _, _, _, _, _, _, _, _] (hLP r hr)) (by exact LO.grow D60_lifts (fun r hr => hr) ho36) (by exact hp35) hr41 h40) ?_
    rintro _ w51 ⟨C51, aqnRow4_46, pqnRow4_47, nqnRow4_48, cqnRow4_49, FqnRow4_50, rfl, h51, hf51_0⟩
    try dsimp only at hf51_0
    obtain rfl := hf51_0.hl
    replace h51 := St.pool (N := [_, _, _, _, _]) (R := [_, _, _, _, _, _, _, _, _, _]) h51
    obtain ⟨L, hL52⟩ : ∃ X, X = C51 ++ L := ⟨_, rfl⟩
    obtain ⟨LP, hQ52⟩ : ∃ X, X = C51 ++ LP := ⟨_, rfl⟩
    replace hLP : ∀ r ∈ LP, r ∈ L := by rw [hQ52, hL52]; exact frMemGrow hLP
    have h52 := St.re (N := [_, _, _, _, _, _, _, _, _, _, _, _, _, _, _]) hL52 h51
    simp only [List.cons_append, List.nil_append] at h52
    replace hFr : Fr2 _ _ L LP := hFr.step hL52 hQ52
    obtain ⟨ix53, hv53⟩ : ∃ i, Bx L i aoBytes15 oBytes15.length coBytes15 oBytes15 := ⟨_, by rw [hL52]; exact hv35.app _⟩
    have hp53 : ∃ i, Bx LP i aoBytes15 oBytes15.length coBytes15 oBytes15 := by rw [hQ52]; exact ⟨_, hp35.choose_spec.app _⟩
    have h54 := St.liftM (LP' := LP) h52 (i := 0) rfl D60_lifts (fun r hr => by rw [hQ52]; exact List.mem_append_right _ hr)
    simp only [List.set_cons_zero, List.set_cons_succ] at h54
    have ho55 : LO (D60.at LP) [] aqnRow4_46 pqnRow4_47 ((x_44).length) cqnRow4_49 FqnRow4_50 x_44 := LO.grow D60_lifts (fun r hr => (by rw [hQ52]; exact hr)) hf51_0
    refine ⟨_, rfl, .inr ⟨rfl, ?_⟩⟩
    refine Plan.move_tuple rfl rfl ?_
    refine Plan.extract_int rfl rfl rfl ?_
    refine Plan.extract_int rfl rfl rfl ?_
    refine Plan.assign_int rfl rfl ?_
    refine Plan.assign_int rfl rfl ?_
    refine Plan.nil ?_
    refine hK39 _ _ ?_; clear hK39
    refine W.seq_k fun K56 hK56 => ?_
    refine W.seq_k fun K66 hK66 => ?_
    refine W.regionT [(0, true), (1, true), (2, true), (3, true), (4, true), (5, true), (6, true), (7, true), (8, true), (9, true), (10, true), (11, true), (12, true), (13, true), (14, true), (15, true)] (by kernel_rfl) ?_
    refine Plan.move_int rfl rfl ?_
    refine Plan.move_int rfl rfl ?_
    by_cases hc67 : x_29 ≠ x_42
    ·
      replace hR := ifT hR hc67
      refine Plan.cmpV (a := (x_29 : Int)) (b := (x_42 : Int)) (p := x_29 ≠ x_42) (v := true) rfl rfl rfl rfl icmp_ne (decide_eq_true hc67) ?_
      refine Plan.move_bool rfl rfl ?_
      refine Plan.passed rfl ?_
      refine Plan.passed rfl ?_
      refine Plan.passed rfl ?_
      refine Plan.pickTb rfl rfl rfl ?_
      refine Plan.move_bool rfl rfl ?_
      refine Plan.passed rfl ?_
      refine Plan.passed rfl ?_
      refine Plan.passed rfl ?_
      refine Plan.passed rfl ?_
      refine Plan.passed rfl ?_
      refine Plan.passed rfl ?_
      refine Plan.pickTb rfl rfl rfl ?_
      refine Plan.nil ?_
      refine hK66 _ _ ?_; clear hK66
      refine W.condT rfl ?_
      refine W.seq_k fun K68 hK68 => ?_
      refine W.regionT [(0, true)] (by kernel_rfl) ?_
      refine Plan.assign_bool rfl rfl ?_
      refine Plan.nil ?_
      refine hK68 _ _ ?_; clear hK68
      refine W.ret (thenR_ret (blockR_ret (thenR_ret (finR_ret ?_))))
      have h69 := St.pickT (C := [_, _, _, _, _, _, _, _, _, _, _, _, _, _, _]) h54 [5, 6, 7, 8, 0, 1, 2, 3, 4] (by decide)
      simp only [pick, List.filterMap_cons, List.filterMap_nil, List.getElem?_cons_zero, List.getElem?_cons_succ, List.cons_append, List.nil_append] at h69
      subst r
      refine RetOk.mk (.tmp_bool rfl .nil) ?_
      obtain ⟨CF, hx1, hx2⟩ := hFr
      subst hx1
      subst hx2
      exact ⟨_, aqnRow4_46, pqnRow4_47, x_44.length, cqnRow4_49, FqnRow4_50, rfl, h69, ho55⟩
    ·
      replace hR := ifF hR hc67
      refine Plan.cmpV (a := (x_29 : Int)) (b := (x_42 : Int)) (p := x_29 ≠ x_42) (v := false) rfl rfl rfl rfl icmp_ne (decide_eq_false hc67) ?_
      refine Plan.move_bool rfl rfl ?_
      refine Plan.move_int rfl rfl ?_
      refine Plan.move_int rfl rfl ?_
      by_cases hc70 : x_30 ≠ x_43
      ·
        replace hR := ifT hR hc70
        refine Plan.cmpV (a := (((x_30 : Nat) : Int) : Int)) (b := (((x_43 : Nat) : Int) : Int)) (p := x_30 ≠ x_43) (v := true) rfl rfl rfl rfl icmp_neN (decide_eq_true hc70) ?_
        refine Plan.pickFb rfl rfl rfl ?_
        refine Plan.move_bool rfl rfl ?_
        refine Plan.passed rfl ?_
        refine Plan.passed rfl ?_
        refine Plan.passed rfl ?_
        refine Plan.passed rfl ?_
        refine Plan.passed rfl ?_
        refine Plan.passed rfl ?_
        refine Plan.pickTb rfl rfl rfl ?_
        refine Plan.nil ?_
        refine hK66 _ _ ?_; clear hK66
        refine W.condT rfl ?_
        refine W.seq_k fun K71 hK71 => ?_
        refine W.regionT [(0, true)] (by kernel_rfl) ?_
        refine Plan.assign_bool rfl rfl ?_
        refine Plan.nil ?_
        refine hK71 _ _ ?_; clear hK71
        refine W.ret (thenR_ret (blockR_ret (thenR_ret (finR_ret ?_))))
        have h72 := St.pickT (C := [_, _, _, _, _, _, _, _, _, _, _, _, _, _, _]) h54 [5, 6, 7, 8, 0, 1, 2, 3, 4] (by decide)
        simp only [pick, List.filterMap_cons, List.filterMap_nil, List.getElem?_cons_zero, List.getElem?_cons_succ, List.cons_append, List.nil_append] at h72
        subst r
        refine RetOk.mk (.tmp_bool rfl .nil) ?_
        obtain ⟨CF, hx1, hx2⟩ := hFr
        subst hx1
        subst hx2
        exact ⟨_, aqnRow4_46, pqnRow4_47, x_44.length, cqnRow4_49, FqnRow4_50, rfl, h72, ho55⟩
      ·
        replace hR := ifF hR hc70
        refine Plan.cmpV (a := (((x_30 : Nat) : Int) : Int)) (b := (((x_43 : Nat) : Int) : Int)) (p := x_30 ≠ x_43) (v := false) rfl rfl rfl rfl icmp_neN (decide_eq_false hc70) ?_
        refine Plan.pickFb rfl rfl rfl ?_
        refine Plan.move_bool rfl rfl ?_
        refine Plan.move_slice rfl rfl ?_
        refine Plan.toStrV h54 (ho24.bx 9 rfl) FLaw23.slu23 FLaw23.u5 FLaw23.str9 rfl rfl fun r73 hr73 => ?_
        refine Plan.fieldAddr 4 FLaw23.fld89_4 rfl rfl ?_
        refine Plan.load0 h54 14 rfl rfl rfl (by omega) FLaw23.sc23 ?_
        refine Plan.toStrV h54 (hv53.app [_, _, _, _, _, _, _, _, _, _, _, _, _, _, _]) FLaw23.slu23 FLaw23.u5 FLaw23.str9 rfl rfl fun r74 hr74 => ?_
        replace hr74 := or_un [_, _, _, _, _, _, _, _, _, _, _, _, _, _, _] hr74
        refine Plan.neStrV (v := decide ((([] : List Byte) ++ oBytes15) = oBytes15)) rfl rfl rfl rfl ?_
        refine Plan.pickFb rfl rfl rfl ?_
        refine Plan.nil ?_
        refine hK66 _ _ ?_; clear hK66
        by_cases hc75 : (([] : List Byte) ++ oBytes15) = oBytes15
        ·
          replace hR := ifT hR hc75
          refine W.condF (congrArg Value.bool (congrArg Bool.not (decide_eq_true hc75))) ?_
          refine W.skip ?_
          refine hK56 _ _ ?_; clear hK56
          refine W.seq_k fun K76 hK76 => ?_
          refine W.regionT [(0, true)] (by kernel_rfl) ?_
          refine Plan.assign_int rfl rfl ?_
          refine Plan.nil ?_
          refine hK76 _ _ ?_; clear hK76
          obtain ⟨hI99, hR099⟩ := hR
          refine W.cutN (fun e w => True ∧ EnvHas e [] ∧ St B (w0.on [mapR kvI (D60.at LP) [] mnflights4 x_32]) (⟨some br_6, 0, 1, fun _ => .int .i64 rNodes7, true⟩ :: ⟨some br_6, 1, 1, fun _ => .int .i64 rMost8, true⟩ :: ⟨some br_6, 2, 1, fun _ => .slice aqnRow4_46 x_44.length cqnRow4_49, true⟩ :: ⟨pqnRow4_47, 0, cqnRow4_49 * 4, FqnRow4_50, true⟩ :: ⟨some br_6, 3, 1, fun _ => .int .i64 x_45, true⟩ :: ⟨some bn_1, 0, 1, fun _ => .int .i64 nnodes2, true⟩ :: ⟨some bn_1, 1, 1, fun _ => .int .i64 nmost3, true⟩ :: ⟨some bn_1, 2, 1, fun _ => .map (some mnflights4), true⟩ :: ⟨some bn_1, 3, 1, fun _ => .int .i64 x_31, true⟩ :: L) w) ?_ ?_
          ·
            refine W.block ?_
            have h100 := St.pickT (C := [_, _, _, _, _, _, _, _, _, _, _, _, _, _, _]) h54 [9, 0, 1, 2, 3, 4, 5, 6, 7, 8] (by decide)
            simp only [pick, List.filterMap_cons, List.filterMap_nil, List.getElem?_cons_zero, List.getElem?_cons_succ, List.cons_append, List.nil_append] at h100
            refine W.iter hI99 (fun (s99 : ((List Byte) × Nat)) e w => ∃ ab97 : Option Addr, ∃ pb97 : Option Nat, ∃ cb97 : Nat, ∃ Fb97 : Nat → Byte, EnvHas e [(7, .slice ab97 ((([] : List Byte) ++ oBytes15).length) cb97), (12, VN s99.2)] ∧ St B (w0.on [mapR kvI (D60.at LP) [] mnflights4 x_32]) (⟨pb97, 0, cb97, fun q => VU .u8 (Fb97 q), true⟩ :: ⟨some br_6, 0, 1, fun _ => .int .i64 rNodes7, true⟩ :: ⟨some br_6, 1, 1, fun _ => .int .i64 rMost8, true⟩ :: ⟨some br_6, 2, 1, fun _ => .slice aqnRow4_46 x_44.length cqnRow4_49, true⟩ :: ⟨pqnRow4_47, 0, cqnRow4_49 * 4, FqnRow4_50, true⟩ :: ⟨some br_6, 3, 1, fun _ => .int .i64 x_45, true⟩ :: ⟨some bn_1, 0, 1, fun _ => .int .i64 nnodes2, true⟩ :: ⟨some bn_1, 1, 1, fun _ => .int .i64 nmost3, true⟩ :: ⟨some bn_1, 2, 1, fun _ => .map (some mnflights4), true⟩ :: ⟨some bn_1, 3, 1, fun _ => .int .i64 x_31, true⟩ :: L) w ∧ Ow ab97 pb97 ((([] : List Byte) ++ oBytes15).length) cb97 Fb97 s99.1) ⟨a24, pb24, cap24, F24, (EnvHas.cons rfl (EnvHas.cons rfl EnvHas.nil)), h100, ho24⟩ ?_
            rintro ⟨b97, i_98⟩ o99 hR hx99 ev101 wl101 ⟨ab97, pb97, cb97, Fb97, he101, h101, hb97⟩
            obtain ⟨ev101, rfl⟩ := he101.open
            unfold lethelaw23_step_l0 at hR
            refine W.seq_k fun K102 hK102 => ?_
            refine W.seq_k fun K103 hK103 => ?_
            refine W.regionT [(0, true), (1, true), (2, true), (3, true)] (by kernel_rfl) ?_
            refine Plan.move_int rfl rfl ?_
            refine Plan.move_slice rfl rfl ?_
            refine Plan.len FLaw23.isl23 rfl rfl ?_
            refine Plan.cmpP (a := (((i_98 : Nat) : Int) : Int)) (b := ((((([] : List Byte) ++ oBytes15).length : Nat) : Int) : Int)) (p := i_98 < (([] : List Byte) ++ oBytes15).length) rfl rfl rfl rfl icmp_ltN ?_
            refine Plan.nil ?_
            refine hK103 _ _ ?_; clear hK103
            by_cases hc104 : i_98 < (([] : List Byte) ++ oBytes15).length
            ·
              replace hR := ifT hR hc104
              refine W.condT (congrArg Value.bool (decide_eq_true hc104)) ?_
              refine W.skip ?_
              refine hK102 _ _ ?_; clear hK102
              refine W.seq_k fun K105 hK105 => ?_
              refine W.block ?_
              refine W.regionT [(0, true), (1, true), (2, true), (3, true), (4, true), (5, true), (6, false)] (by kernel_rfl) ?_
              refine Plan.move_slice rfl rfl ?_
              refine Plan.move_int rfl rfl ?_
              obtain ⟨hc106, hR⟩ := hR
              refine Plan.idxVS (j := i_98) h101 (hb97.bx 0 rfl) FLaw23.sl23 rfl rfl rfl hc106 ?_
              refine Plan.loadV (j := i_98) h101 (hb97.bx 0 rfl) rfl rfl hc106 FLaw23.sc5 fun r107 hr107 => ?_
              refine Plan.xorU .u8 (X := (lit b97 i_98)) (Y := 85#8) rfl rfl rfl ?_
              obtain ⟨hc108, hR⟩ := hR
              refine Plan.idxVS (j := i_98) h101 (hb97.bx 0 rfl) FLaw23.sl23 rfl rfl rfl hc108 ?_
              refine Plan.storeO (j := i_98) (Y := ((lit b97 i_98) ^^^ (85#8))) h101 0 hb97 rfl rfl rfl rfl hc108 FLaw23.sz5 rfl fun w109 F109 ho109 h109 => ?_
              simp only [List.cons_append, List.nil_append, List.set_cons_zero, List.set_cons_succ] at h109
              have e109 : (b97.set i_98 ((lit b97 i_98) ^^^ (85#8))).length = b97.length := List.length_set
              refine Plan.nil ?_
              refine blockR_norm ?_
              refine hK105 _ _ ?_; clear hK105
              refine W.regionT [(0, true), (1, true), (2, true)] (by kernel_rfl) ?_
              refine Plan.move_int rfl rfl ?_
              obtain ⟨hc110, hR⟩ := hR
              refine Plan.addN (a := i_98) (b := 1) rfl rfl rfl (by omega) ?_
              refine Plan.assign_int rfl rfl ?_
              refine Plan.nil ?_
              exact iterR_norm ⟨_, hR, ab97, pb97, cb97, F109, (EnvHas.cons rfl (EnvHas.cons rfl EnvHas.nil)), h109, (show Ow _ _ ((([] : List Byte) ++ oBytes15).length) _ _ _ from ho109)⟩
            ·
              replace hR := ifF hR hc104
              refine W.condF (congrArg Value.bool (decide_eq_false hc104)) ?_
              refine W.exit (thenR_exit (iterR_exit (blockR_here ?_)))
              have h111 := St.pickT (C := [_, _, _, _, _, _, _, _, _, _]) h101 [1, 2, 3, 4, 5, 6, 7, 8, 9] (by decide)
              simp only [pick, List.filterMap_cons, List.filterMap_nil, List.getElem?_cons_zero, List.getElem?_cons_succ, List.cons_append, List.nil_append] at h111
              exact ⟨trivial, EnvHas.nil, h111⟩
          ·
            rintro ev112 wl112 ⟨hy112, he112, h112⟩
            obtain ⟨ev112, rfl⟩ := he112.open
            replace hR := hR099
            refine blockR_norm ?_
            refine hK18 _ _ ?_; clear hK18
            refine W.seq_k fun K113 hK113 => ?_
            refine W.regionT [(0, true)] (by kernel_rfl) ?_
            refine Plan.assign_bool rfl rfl ?_
            refine Plan.nil ?_
            refine hK113 _ _ ?_; clear hK113
            refine W.ret (finR_ret ?_)
            have h114 := St.pickT (C := [_, _, _, _, _, _, _, _, _]) h112 [5, 6, 7, 8, 0, 1, 2, 3, 4] (by decide)
            simp only [pick, List.filterMap_cons, List.filterMap_nil, List.getElem?_cons_zero, List.getElem?_cons_succ, List.cons_append, List.nil_append] at h114
            subst r
            refine RetOk.mk (.tmp_bool rfl .nil) ?_
            obtain ⟨CF, hx1, hx2⟩ := hFr
            subst hx1
            subst hx2
            exact ⟨_, aqnRow4_46, pqnRow4_47, x_44.length, cqnRow4_49, FqnRow4_50, rfl, h114, ho55⟩
        ·
          replace hR := ifF hR hc75
          refine W.condT (congrArg Value.bool (congrArg Bool.not (decide_eq_false hc75))) ?_
          refine W.seq_k fun K115 hK115 => ?_
          refine W.regionT [(0, true)] (by kernel_rfl) ?_
          refine Plan.assign_bool rfl rfl ?_
          refine Plan.nil ?_
          refine hK115 _ _ ?_; clear hK115
          refine W.ret (thenR_ret (blockR_ret (thenR_ret (finR_ret ?_))))
          have h116 := St.pickT (C := [_, _, _, _, _, _, _, _, _, _, _, _, _, _, _]) h54 [5, 6, 7, 8, 0, 1, 2, 3, 4] (by decide)
          simp only [pick, List.filterMap_cons, List.filterMap_nil, List.getElem?_cons_zero, List.getElem?_cons_succ, List.cons_append, List.nil_append] at h116
          subst r
          refine RetOk.mk (.tmp_bool rfl .nil) ?_
          obtain ⟨CF, hx1, hx2⟩ := hFr
          subst hx1
          subst hx2
          exact ⟨_, aqnRow4_46, pqnRow4_47, x_44.length, cqnRow4_49, FqnRow4_50, rfl, h116, ho55⟩
  ·
    replace hR := ifF hR hc21
    refine W.condF (congrArg Value.bool (decide_eq_false hc21)) ?_
    refine W.seq_k fun K117 hK117 => ?_
    refine W.regionT [(0, true), (1, true)] (by kernel_rfl) ?_
    refine Plan.cmpP (a := (oKind11 : Int)) (b := (2 : Int)) (p := oKind11 = 2) rfl rfl rfl rfl icmp_eq ?_
    refine Plan.assign_bool rfl rfl ?_
    refine Plan.nil ?_
    refine hK117 _ _ ?_; clear hK117
    by_cases hc118 : oKind11 = 2
    ·
      replace hR := ifT hR hc118
      refine W.condT (congrArg Value.bool (decide_eq_true hc118)) ?_
      refine W.seq_k fun K119 hK119 => ?_
      refine W.regionT [(0, true), (1, true), (2, true), (3, false), (4, true), (5, true), (6, true), (7, false), (8, false), (9, true)] (by kernel_rfl) ?_
      refine Plan.move_ptr rfl rfl ?_
      refine Plan.fieldAddr 1 FLaw23.fld89_1 rfl rfl ?_
      refine Plan.load0 h17 1 rfl rfl rfl (by omega) FLaw23.sc3 ?_
      have h120 := St.pickT (C := [_, _, _, _, _, _, _, _, _, _, _, _, _, _]) h17 [5, 6, 7, 8, 0, 1, 2, 3, 4, 9, 10, 11, 12, 13] (by decide)
      simp only [pick, List.filterMap_cons, List.filterMap_nil, List.getElem?_cons_zero, List.getElem?_cons_succ, List.cons_append, List.nil_append] at h120
      obtain ⟨x_122, x_123, x_124, x_125, x_126, x_127, hr121, hR⟩ := hR
      refine Plan.call (vs := [.pointer (some ⟨bn_1, 0, none⟩), .int .i64 oK12]) rfl FLaw23.call34 rfl (net_Net_Deliver_ok (w0 := w0) (LP := LP) (by exact fun r hr => List.mem_append_right [_, _, _, _, _, _, _, _, _, _] (hLP r hr)) hr121 (show St B (w0.on [mapR kvI (D60.at LP) [] mnflights4 nflights4]) _ _ from h120)) ?_
      rintro _ w131 ⟨C131, iy0_3_128, ay0_3_129, cy0_3_130, rfl, h131, hf131_0⟩
      replace h131 : St B (w0.on [mapR kvI (D60.at (C131 ++ LP)) [] mnflights4 x_127]) _ _ := h131
      try dsimp only at hf131_0
      replace h131 := St.pool (N := [_, _, _, _]) (R := [_, _, _, _, _, _, _, _, _, _]) h131
      obtain ⟨L, hL132⟩ : ∃ X, X = C131 ++ L := ⟨_, rfl⟩
      obtain ⟨LP, hQ132⟩ : ∃ X, X = C131 ++ LP := ⟨_, rfl⟩
      replace hLP : ∀ r ∈ LP, r ∈ L := by rw [hQ132, hL132]; exact frMemGrow hLP
      have h132 := St.re (N := [_, _, _, _, _, _, _, _, _, _, _, _, _, _]) hL132 h131
      simp only [List.cons_append, List.nil_append] at h132
      replace hFr : Fr2 _ _ L LP := hFr.step hL132 hQ132
      obtain ⟨ix133, hv133⟩ : ∃ i, Bx L i aoBytes15 oBytes15.length coBytes15 oBytes15 := ⟨_, by rw [hL132]; exact hoBytes15.app _⟩
      have hp133 : ∃ i, Bx LP i aoBytes15 oBytes15.length coBytes15 oBytes15 := by rw [hQ132]; exact ⟨_, qoBytes15.choose_spec.app _⟩
      have ho134 : LO (D60.at LP) [] arRow9 prRow9 ((rRow9).length) crRow9 FrRow9 rRow9 := by rw [hQ132]; exact LO.grow D60_lifts (fun r hr => List.mem_append_right _ hr) hrRow9
      have h136 := St.eqM (A' := LP) h132 (i := 0) rfl hQ132
      simp only [List.set_cons_zero, List.set_cons_succ] at h136
      have hp137 : ∃ i, Bx LP i ay0_3_129 x_125.length cy0_3_130 x_125 := by rw [hQ132]; exact ⟨_, hf131_0⟩
      obtain ⟨ix137, hv137⟩ := Bx.lift hp137.choose_spec hLP
      refine ⟨_, rfl, .inr ⟨rfl, ?_⟩⟩
      refine Plan.move_tuple rfl rfl ?_
      refine Plan.extract_agg rfl rfl rfl ?_
      refine Plan.extract_int rfl rfl rfl ?_
      refine Plan.alloc h136 rfl FLaw23.z60 PIn.nil fun b138 w138 hb138 h138 => ?_
      simp only [rngs, Nat.zero_add, Nat.reduceAdd, List.cons_append, List.nil_append] at h138
      refine Plan.storeP (ps := [(1, fun _ => .int .i64 x_122), (1, fun _ => .int .i64 x_123), (1, fun _ => .int .i64 x_124), (1, fun _ => .slice ay0_3_129 x_125.length cy0_3_130)]) h138 rfl rfl rfl (.cons 0 rfl (.cons 1 rfl (.cons 2 rfl (.cons 3 rfl .nil)))) ⟨fun _ _ => rfl, fun _ _ => rfl, fun _ _ => rfl, fun _ _ => rfl, trivial⟩ FLaw23.sz60 (EffO.keep PIn.nil) fun w139 h139 => ?_
      simp only [List.cons_append, List.nil_append, List.set_cons_zero, List.set_cons_succ] at h139
      refine Plan.assign_int rfl rfl ?_
      refine Plan.nil ?_
      refine hK119 _ _ ?_; clear hK119
      refine W.seq_k fun K140 hK140 => ?_
      refine W.regionT [(0, true), (1, true), (2, true), (3, false), (4, true), (5, true), (6, true), (7, false), (8, false), (9, true)] (by kernel_rfl) ?_
      refine Plan.move_ptr rfl rfl ?_
      refine Plan.fieldAddr 1 FLaw23.fld89_1 rfl rfl ?_
      refine Plan.load0 h139 9 rfl rfl rfl (by omega) FLaw23.sc3 ?_
      have h141 := St.pickT (C := [_, _, _, _, _, _, _, _, _, _, _, _, _, _, _, _, _, _]) h139 [13, 14, 15, 16, 17, 0, 1, 2, 3, 4, 5, 6, 7, 8, 9, 10, 11, 12] (by decide)
      simp only [pick, List.filterMap_cons, List.filterMap_nil, List.getElem?_cons_zero, List.getElem?_cons_succ, List.cons_append, List.nil_append] at h141
      obtain ⟨x_143, x_144, x_145, x_146, x_147, x_148, hr142, hR⟩ := hR
      refine Plan.call (vs := [.pointer (some ⟨br_6, 0, none⟩), .int .i64 oK12]) rfl FLaw23.call73 rfl (letheref23_Net_Deliver_ok (LP := LP) (by exact fun r hr => List.mem_append_right [_, _, _, _, _, _, _, _, _, _, _, _, _] (hLP r hr)) (by exact LO.grow D60_lifts (fun r hr => hr) ho134) hr142 h141) ?_
      rintro _ w157 ⟨C157, iy0_3_149, ay0_3_150, cy0_3_151, aqnRow4_152, pqnRow4_153, nqnRow4_154, cqnRow4_155, FqnRow4_156, rfl, h157, hf157_0, hf157_1⟩
      try dsimp only at hf157_0 hf157_1
      obtain rfl := hf157_1.hl
      replace h157 := St.pool (N := [_, _, _, _, _]) (R := [_, _, _, _, _, _, _, _, _, _, _, _, _]) h157
      obtain ⟨L, hL158⟩ : ∃ X, X = C157 ++ L := ⟨_, rfl⟩
      obtain ⟨LP, hQ158⟩ : ∃ X, X = C157 ++ LP := ⟨_, rfl⟩
      replace hLP : ∀ r ∈ LP, r ∈ L := by rw [hQ158, hL158]; exact frMemGrow hLP
      have h158 := St.re (N := [_, _, _, _, _, _, _, _, _, _, _, _, _, _, _, _, _, _]) hL158 h157
      simp only [List.cons_append, List.nil_append] at h158
      replace hFr : Fr2 _ _ L LP := hFr.step hL158 hQ158
      obtain ⟨ix159, hv159⟩ : ∃ i, Bx L i aoBytes15 oBytes15.length coBytes15 oBytes15 := ⟨_, by rw [hL158]; exact hv133.app _⟩
      have hp159 : ∃ i, Bx LP i aoBytes15 oBytes15.length coBytes15 oBytes15 := by rw [hQ158]; exact ⟨_, hp133.choose_spec.app _⟩
      obtain ⟨ix160, hv160⟩ : ∃ i, Bx L i ay0_3_129 x_125.length cy0_3_130 x_125 := ⟨_, by rw [hL158]; exact hv137.app _⟩
      have hp160 : ∃ i, Bx LP i ay0_3_129 x_125.length cy0_3_130 x_125 := by rw [hQ158]; exact ⟨_, hp137.choose_spec.app _⟩
      have h161 := St.liftM (LP' := LP) h158 (i := 0) rfl D60_lifts (fun r hr => by rw [hQ158]; exact List.mem_append_right _ hr)
      simp only [List.set_cons_zero, List.set_cons_succ] at h161
      have ho162 : LO (D60.at LP) [] aqnRow4_152 pqnRow4_153 ((x_148).length) cqnRow4_155 FqnRow4_156 x_148 := LO.grow D60_lifts (fun r hr => (by rw [hQ158]; exact hr)) hf157_1
      have hp163 : ∃ i, Bx LP i ay0_3_150 x_146.length cy0_3_151 x_146 := by rw [hQ158]; exact ⟨_, hf157_0⟩
      obtain ⟨ix163, hv163⟩ := Bx.lift hp163.choose_spec hLP
      refine ⟨_, rfl, .inr ⟨rfl, ?_⟩⟩
      refine Plan.move_tuple rfl rfl ?_
      refine Plan.extract_agg rfl rfl rfl ?_
      refine Plan.extract_int rfl rfl rfl ?_
      refine Plan.alloc h161 rfl FLaw23.z60 PIn.nil fun b164 w164 hb164 h164 => ?_
      simp only [rngs, Nat.zero_add, Nat.reduceAdd, List.cons_append, List.nil_append] at h164
      refine Plan.storeP (ps := [(1, fun _ => .int .i64 x_143), (1, fun _ => .int .i64 x_144), (1, fun _ => .int .i64 x_145), (1, fun _ => .slice ay0_3_150 x_146.length cy0_3_151)]) h164 rfl rfl rfl (.cons 0 rfl (.cons 1 rfl (.cons 2 rfl (.cons 3 rfl .nil)))) ⟨fun _ _ => rfl, fun _ _ => rfl, fun _ _ => rfl, fun _ _ => rfl, trivial⟩ FLaw23.sz60 (EffO.keep PIn.nil) fun w165 h165 => ?_
      simp only [List.cons_append, List.nil_append, List.set_cons_zero, List.set_cons_succ] at h165
      refine Plan.assign_int rfl rfl ?_
      refine Plan.nil ?_
      refine hK140 _ _ ?_; clear hK140
      refine W.seq_k fun K166 hK166 => ?_
      refine W.regionT [(0, true), (1, true), (2, true), (3, true), (4, true), (5, true), (6, false), (7, true), (8, true)] (by kernel_rfl) ?_
      refine Plan.move_int rfl rfl ?_
      refine Plan.move_int rfl rfl ?_
      by_cases hc167 : x_126 = x_147
      ·
        replace hR := ifT hR hc167
        refine Plan.cmpV (a := (((x_126 : Nat) : Int) : Int)) (b := (((x_147 : Nat) : Int) : Int)) (p := x_126 = x_147) (v := true) rfl rfl rfl rfl icmp_eqN (decide_eq_true hc167) ?_
        refine Plan.move_bool rfl rfl ?_
        refine Plan.loadA h165 rfl rfl (.cons 9 rfl (.cons 10 rfl (.cons 11 rfl (.cons 12 rfl .nil)))) FLaw23.agg60 ?_
        refine Plan.loadA h165 rfl rfl (.cons 0 rfl (.cons 1 rfl (.cons 2 rfl (.cons 3 rfl .nil)))) FLaw23.agg60 ?_
        obtain ⟨x_169, hr168, hR⟩ := hR
        refine Plan.call (vs := [AG [(1, fun _ => .int .i64 x_122), (1, fun _ => .int .i64 x_123), (1, fun _ => .int .i64 x_124), (1, fun _ => .slice ay0_3_129 x_125.length cy0_3_130)], AG [(1, fun _ => .int .i64 x_143), (1, fun _ => .int .i64 x_144), (1, fun _ => .int .i64 x_145), (1, fun _ => .slice ay0_3_150 x_146.length cy0_3_151)]]) rfl FLaw23.call69 rfl (lethelaw23_same_ok (hv160.app [_, _, _, _, _, _, _, _, _, _, _, _, _, _, _, _, _, _, _, _, _, _]) (hv163.app [_, _, _, _, _, _, _, _, _, _, _, _, _, _, _, _, _, _, _, _, _, _]) hr168 h165) ?_
        rintro _ w170 ⟨rfl, h170⟩
        refine ⟨_, rfl, .inr ⟨rfl, ?_⟩⟩
        refine Plan.pickTb rfl rfl rfl ?_
        refine Plan.assign_bool rfl rfl ?_
        refine Plan.nil ?_
        refine hK166 _ _ ?_; clear hK166
        refine W.ret (blockR_ret (thenR_ret (finR_ret ?_)))
        have h171 := St.pickT (C := [_, _, _, _, _, _, _, _, _, _, _, _, _, _, _, _, _, _, _, _, _, _]) h170 [13, 14, 15, 16, 4, 5, 6, 7, 8] (by decide)
        simp only [pick, List.filterMap_cons, List.filterMap_nil, List.getElem?_cons_zero, List.getElem?_cons_succ, List.cons_append, List.nil_append] at h171
        subst r
        refine RetOk.mk (.tmp_bool rfl .nil) ?_
        obtain ⟨CF, hx1, hx2⟩ := hFr
        subst hx1
        subst hx2
        exact ⟨_, aqnRow4_152, pqnRow4_153, x_148.length, cqnRow4_155, FqnRow4_156, rfl, h171, ho162⟩
      ·
        replace hR := ifF hR hc167
        refine Plan.cmpV (a := (((x_126 : Nat) : Int) : Int)) (b := (((x_147 : Nat) : Int) : Int)) (p := x_126 = x_147) (v := false) rfl rfl rfl rfl icmp_eqN (decide_eq_false hc167) ?_
        refine Plan.move_bool rfl rfl ?_
        refine Plan.passed rfl ?_
        refine Plan.passed rfl ?_
        refine Plan.passed rfl ?_
        refine Plan.pickFb rfl rfl rfl ?_
        refine Plan.assign_bool rfl rfl ?_
        refine Plan.nil ?_
        refine hK166 _ _ ?_; clear hK166
        refine W.ret (blockR_ret (thenR_ret (finR_ret ?_)))
        have h172 := St.pickT (C := [_, _, _, _, _, _, _, _, _, _, _, _, _, _, _, _, _, _, _, _, _, _]) h165 [13, 14, 15, 16, 4, 5, 6, 7, 8] (by decide)
        simp only [pick, List.filterMap_cons, List.filterMap_nil, List.getElem?_cons_zero, List.getElem?_cons_succ, List.cons_append, List.nil_append] at h172
        subst r
        refine RetOk.mk (.tmp_bool rfl .nil) ?_
        obtain ⟨CF, hx1, hx2⟩ := hFr
        subst hx1
        subst hx2
        exact ⟨_, aqnRow4_152, pqnRow4_153, x_148.length, cqnRow4_155, FqnRow4_156, rfl, h172, ho162⟩
    ·
      replace hR := ifF hR hc118
      refine W.condF (congrArg Value.bool (decide_eq_false hc118)) ?_
      refine W.seq_k fun K173 hK173 => ?_
      refine W.regionT [(0, true), (1, true)] (by kernel_rfl) ?_
      refine Plan.cmpP (a := (oKind11 : Int)) (b := (3 : Int)) (p := oKind11 = 3) rfl rfl rfl rfl icmp_eq ?_
      refine Plan.assign_bool rfl rfl ?_
      refine Plan.nil ?_
      refine hK173 _ _ ?_; clear hK173
      by_cases hc174 : oKind11 = 3
      ·
        replace hR := ifT hR hc174
        refine W.condT (congrArg Value.bool (decide_eq_true hc174)) ?_
        refine W.seq_k fun K175 hK175 => ?_
        refine W.regionD FLaw23.mixed [(0, true), (1, true), (2, true), (4, true), (5, true), (6, true), (3, false), (7, false), (8, true), (9, true)] (by kernel_rfl) ?_
        have h176 := h17.drew
        refine Plan.move_ptr rfl rfl ?_
        refine Plan.fieldAddr 1 FLaw23.fld89_1 rfl rfl ?_
        refine Plan.load0 h176 1 rfl rfl rfl (by omega) FLaw23.sc3 ?_
        refine Plan.move_ptr rfl rfl ?_
        refine Plan.fieldAddr 1 FLaw23.fld89_1 rfl rfl ?_
        refine Plan.load0 h176 1 rfl rfl rfl (by omega) FLaw23.sc3 ?_
        have h177 := St.pickT (C := [_, _, _, _, _, _, _, _, _, _, _, _, _, _]) h176 [5, 6, 7, 8, 0, 1, 2, 3, 4, 9, 10, 11, 12, 13] (by decide)
        simp only [pick, List.filterMap_cons, List.filterMap_nil, List.getElem?_cons_zero, List.getElem?_cons_succ, List.cons_append, List.nil_append] at h177
        obtain ⟨x_179, x_180, hr178, hR⟩ := hR
        refine Plan.callMix (vs := [.pointer (some ⟨bn_1, 0, none⟩), .int .i64 oK12]) rfl FLaw23.call48 rfl (net_Net_Drop_ok (w0 := w0) (LP := LP) (by exact fun r hr => List.mem_append_right [_, _, _, _, _, _, _, _, _, _] (hLP r hr)) hr178 (show St B (w0.on [mapR kvI (D60.at LP) [] mnflights4 nflights4]) _ _ from h177)) ?_
        rintro _ w181 ⟨C181, rfl, h181⟩
        replace h181 : St B (w0.on [mapR kvI (D60.at (C181 ++ LP)) [] mnflights4 x_180]) _ _ := h181
        replace h181 := St.pool (N := [_, _, _, _]) (R := [_, _, _, _, _, _, _, _, _, _]) h181
        obtain ⟨L, hL182⟩ : ∃ X, X = C181 ++ L := ⟨_, rfl⟩
        obtain ⟨LP, hQ182⟩ : ∃ X, X = C181 ++ LP := ⟨_, rfl⟩
        replace hLP : ∀ r ∈ LP, r ∈ L := by rw [hQ182, hL182]; exact frMemGrow hLP
        have h182 := St.re (N := [_, _, _, _, _, _, _, _, _, _, _, _, _, _]) hL182 h181
        simp only [List.cons_append, List.nil_append] at h182
        replace hFr : Fr2 _ _ L LP := hFr.step hL182 hQ182
        obtain ⟨ix183, hv183⟩ : ∃ i, Bx L i aoBytes15 oBytes15.length coBytes15 oBytes15 := ⟨_, by rw [hL182]; exact hoBytes15.app _⟩
        have hp183 : ∃ i, Bx LP i aoBytes15 oBytes15.length coBytes15 oBytes15 := by rw [hQ182]; exact ⟨_, qoBytes15.choose_spec.app _⟩
        have ho184 : LO (D60.at LP) [] arRow9 prRow9 ((rRow9).length) crRow9 FrRow9 rRow9 := by rw [hQ182]; exact LO.grow D60_lifts (fun r hr => List.mem_append_right _ hr) hrRow9
        have h186 := St.eqM (A' := LP) h182 (i := 0) rfl hQ182
        simp only [List.set_cons_zero, List.set_cons_succ] at h186
        refine ⟨_, rfl, _, _, _, _, h186, (by exact (EffO.mix _ (Filt.keep rfl (Filt.drop rfl Filt.nil)) (PIn.cons 5 rfl PIn.nil))), ?_⟩
        have h187 := St.pickT (C := [_, _, _, _, _, _, _, _, _, _, _, _, _, _]) h186 [9, 10, 11, 12, 13, 0, 1, 2, 3, 4, 5, 6, 7, 8] (by decide)
        simp only [pick, List.filterMap_cons, List.filterMap_nil, List.getElem?_cons_zero, List.getElem?_cons_succ, List.cons_append, List.nil_append] at h187
        obtain ⟨x_189, x_190, hr188, hR⟩ := hR
        refine Plan.call (vs := [.pointer (some ⟨br_6, 0, none⟩), .int .i64 oK12]) rfl FLaw23.call74 rfl (letheref23_Net_Drop_ok (LP := LP) (by exact fun r hr => List.mem_append_right [_, _, _, _, _, _, _, _, _] (hLP r hr)) (by exact LO.grow D60_lifts (fun r hr => hr) ho184) hr188 h187) ?_
        rintro _ w196 ⟨C196, aqnRow4_191, pqnRow4_192, nqnRow4_193, cqnRow4_194, FqnRow4_195, rfl, h196, hf196_0⟩
        try dsimp only at hf196_0
        obtain rfl := hf196_0.hl
        replace h196 := St.pool (N := [_, _, _, _, _]) (R := [_, _, _, _, _, _, _, _, _]) h196
        obtain ⟨L, hL197⟩ : ∃ X, X = C196 ++ L := ⟨_, rfl⟩
        obtain ⟨LP, hQ197⟩ : ∃ X, X = C196 ++ LP := ⟨_, rfl⟩
        replace hLP : ∀ r ∈ LP, r ∈ L := by rw [hQ197, hL197]; exact frMemGrow hLP
        have h197 := St.re (N := [_, _, _, _, _, _, _, _, _, _, _, _, _, _]) hL197 h196
        simp only [List.cons_append, List.nil_append] at h197
        replace hFr : Fr2 _ _ L LP := hFr.step hL197 hQ197
        obtain ⟨ix198, hv198⟩ : ∃ i, Bx L i aoBytes15 oBytes15.length coBytes15 oBytes15 := ⟨_, by rw [hL197]; exact hv183.app _⟩
        have hp198 : ∃ i, Bx LP i aoBytes15 oBytes15.length coBytes15 oBytes15 := by rw [hQ197]; exact ⟨_, hp183.choose_spec.app _⟩
        have h199 := St.liftM (LP' := LP) h197 (i := 0) rfl D60_lifts (fun r hr => by rw [hQ197]; exact List.mem_append_right _ hr)
        simp only [List.set_cons_zero, List.set_cons_succ] at h199
        have ho200 : LO (D60.at LP) [] aqnRow4_191 pqnRow4_192 ((x_190).length) cqnRow4_194 FqnRow4_195 x_190 := LO.grow D60_lifts (fun r hr => (by rw [hQ197]; exact hr)) hf196_0
        refine ⟨_, rfl, .inr ⟨rfl, ?_⟩⟩
        refine Plan.cmpP (a := (((x_179 : Nat) : Int) : Int)) (b := (((x_189 : Nat) : Int) : Int)) (p := x_179 = x_189) rfl rfl rfl rfl icmp_eqN ?_
        refine Plan.assign_bool rfl rfl ?_
        refine Plan.nil ?_
        refine hK175 _ _ ?_; clear hK175
        refine W.ret (blockR_ret (thenR_ret (finR_ret ?_)))
        have h201 := St.pickT (C := [_, _, _, _, _, _, _, _, _, _, _, _, _, _]) h199 [5, 6, 7, 8, 0, 1, 2, 3, 4] (by decide)
        simp only [pick, List.filterMap_cons, List.filterMap_nil, List.getElem?_cons_zero, List.getElem?_cons_succ, List.cons_append, List.nil_append] at h201
        subst r
        refine RetOk.mk (.tmp_bool rfl .nil) ?_
        obtain ⟨CF, hx1, hx2⟩ := hFr
        subst hx1
        subst hx2
        exact ⟨_, aqnRow4_191, pqnRow4_192, x_190.length, cqnRow4_194, FqnRow4_195, rfl, h201, ho200⟩
      ·
        replace hR := ifF hR hc174
        refine W.condF (congrArg Value.bool (decide_eq_false hc174)) ?_
        refine W.seq_k fun K202 hK202 => ?_
        refine W.regionT [(0, true), (1, true)] (by kernel_rfl) ?_
        refine Plan.cmpP (a := (oKind11 : Int)) (b := (4 : Int)) (p := oKind11 = 4) rfl rfl rfl rfl icmp_eq ?_
        refine Plan.assign_bool rfl rfl ?_
        refine Plan.nil ?_
        refine hK202 _ _ ?_; clear hK202
        by_cases hc203 : oKind11 = 4
        ·
          replace hR := ifT hR hc203
          refine W.condT (congrArg Value.bool (decide_eq_true hc203)) ?_
          refine W.seq_k fun K204 hK204 => ?_
          refine W.regionT [(0, true), (1, true), (2, true), (3, false), (4, true), (5, true), (6, true), (7, true), (8, true)] (by kernel_rfl) ?_
          refine Plan.move_ptr rfl rfl ?_
          refine Plan.fieldAddr 1 FLaw23.fld89_1 rfl rfl ?_
          refine Plan.load0 h17 1 rfl rfl rfl (by omega) FLaw23.sc3 ?_
          have h205 := St.pickT (C := [_, _, _, _, _, _, _, _, _, _, _, _, _, _]) h17 [5, 6, 7, 8, 0, 1, 2, 3, 4, 9, 10, 11, 12, 13] (by decide)
          simp only [pick, List.filterMap_cons, List.filterMap_nil, List.getElem?_cons_zero, List.getElem?_cons_succ, List.cons_append, List.nil_append] at h205
          obtain ⟨x_207, x_208, x_209, x_210, hr206, hR⟩ := hR
          refine Plan.call (vs := [.pointer (some ⟨bn_1, 0, none⟩), .int .i64 oK12]) rfl FLaw23.call31 rfl (net_Net_Copy_ok (w0 := w0) (LP := LP) (by exact fun r hr => List.mem_append_right [_, _, _, _, _, _, _, _, _, _] (hLP r hr)) hr206 (show St B (w0.on [mapR kvI (D60.at LP) [] mnflights4 nflights4]) _ _ from h205)) ?_
          rintro _ w211 ⟨C211, rfl, h211⟩
          replace h211 : St B (w0.on [mapR kvI (D60.at (C211 ++ LP)) [] mnflights4 x_210]) _ _ := h211
          replace h211 := St.pool (N := [_, _, _, _]) (R := [_, _, _, _, _, _, _, _, _, _]) h211
          obtain ⟨L, hL212⟩ : ∃ X, X = C211 ++ L := ⟨_, rfl⟩
          obtain ⟨LP, hQ212⟩ : ∃ X, X = C211 ++ LP := ⟨_, rfl⟩
          replace hLP : ∀ r ∈ LP, r ∈ L := by rw [hQ212, hL212]; exact frMemGrow hLP
          have h212 := St.re (N := [_, _, _, _, _, _, _, _, _, _, _, _, _, _]) hL212 h211
          simp only [List.cons_append, List.nil_append] at h212
          replace hFr : Fr2 _ _ L LP := hFr.step hL212 hQ212
          obtain ⟨ix213, hv213⟩ : ∃ i, Bx L i aoBytes15 oBytes15.length coBytes15 oBytes15 := ⟨_, by rw [hL212]; exact hoBytes15.app _⟩
          have hp213 : ∃ i, Bx LP i aoBytes15 oBytes15.length coBytes15 oBytes15 := by rw [hQ212]; exact ⟨_, qoBytes15.choose_spec.app _⟩
          have ho214 : LO (D60.at LP) [] arRow9 prRow9 ((rRow9).length) crRow9 FrRow9 rRow9 := by rw [hQ212]; exact LO.grow D60_lifts (fun r hr => List.mem_append_right _ hr) hrRow9
          have h216 := St.eqM (A' := LP) h212 (i := 0) rfl hQ212
          simp only [List.set_cons_zero, List.set_cons_succ] at h216
          refine ⟨_, rfl, .inr ⟨rfl, ?_⟩⟩
          refine Plan.move_tuple rfl rfl ?_
          refine Plan.extract_int rfl rfl rfl ?_
          refine Plan.extract_int rfl rfl rfl ?_
          refine Plan.assign_int rfl rfl ?_
          refine Plan.assign_int rfl rfl ?_
          refine Plan.nil ?_
          refine hK204 _ _ ?_; clear hK204
          refine W.seq_k fun K217 hK217 => ?_
          refine W.regionT [(0, true), (1, true), (2, true), (3, false), (4, true), (5, true), (6, true), (7, true), (8, true)] (by kernel_rfl) ?_
          refine Plan.move_ptr rfl rfl ?_
          refine Plan.fieldAddr 1 FLaw23.fld89_1 rfl rfl ?_
          refine Plan.load0 h216 5 rfl rfl rfl (by omega) FLaw23.sc3 ?_
          have h218 := St.pickT (C := [_, _, _, _, _, _, _, _, _, _, _, _, _, _]) h216 [9, 10, 11, 12, 13, 0, 1, 2, 3, 4, 5, 6, 7, 8] (by decide)
          simp only [pick, List.filterMap_cons, List.filterMap_nil, List.getElem?_cons_zero, List.getElem?_cons_succ, List.cons_append, List.nil_append] at h218
          obtain ⟨x_220, x_221, x_222, x_223, hr219, hR⟩ := hR
          refine Plan.call (vs := [.pointer (some ⟨br_6, 0, none⟩), .int .i64 oK12]) rfl FLaw23.call75 rfl (letheref23_Net_Copy_ok (LP := LP) (by exact fun r hr => List.mem_append_right [_, _, _, _, _, _, _, _, _] (hLP r hr)) (by exact LO.grow D60_lifts (fun r hr => hr) ho214) hr219 h218) ?_
          rintro _ w229 ⟨C229, aqnRow4_224, pqnRow4_225, nqnRow4_226, cqnRow4_227, FqnRow4_228, rfl, h229, hf229_0⟩
          try dsimp only at hf229_0
          obtain rfl := hf229_0.hl
          replace h229 := St.pool (N := [_, _, _, _, _]) (R := [_, _, _, _, _, _, _, _, _]) h229
          obtain ⟨L, hL230⟩ : ∃ X, X = C229 ++ L := ⟨_, rfl⟩
          obtain ⟨LP, hQ230⟩ : ∃ X, X = C229 ++ LP := ⟨_, rfl⟩
          replace hLP : ∀ r ∈ LP, r ∈ L := by rw [hQ230, hL230]; exact frMemGrow hLP
          have h230 := St.re (N := [_, _, _, _, _, _, _, _, _, _, _, _, _, _]) hL230 h229
          simp only [List.cons_append, List.nil_append] at h230
          replace hFr : Fr2 _ _ L LP := hFr.step hL230 hQ230
          obtain ⟨ix231, hv231⟩ : ∃ i, Bx L i aoBytes15 oBytes15.length coBytes15 oBytes15 := ⟨_, by rw [hL230]; exact hv213.app _⟩
          have hp231 : ∃ i, Bx LP i aoBytes15 oBytes15.length coBytes15 oBytes15 := by rw [hQ230]; exact ⟨_, hp213.choose_spec.app _⟩
          have h232 := St.liftM (LP' := LP) h230 (i := 0) rfl D60_lifts (fun r hr => by rw [hQ230]; exact List.mem_append_right _ hr)
          simp only [List.set_cons_zero, List.set_cons_succ] at h232
          have ho233 : LO (D60.at LP) [] aqnRow4_224 pqnRow4_225 ((x_222).length) cqnRow4_227 FqnRow4_228 x_222 := LO.grow D60_lifts (fun r hr => (by rw [hQ230]; exact hr)) hf229_0
          refine ⟨_, rfl, .inr ⟨rfl, ?_⟩⟩
          refine Plan.move_tuple rfl rfl ?_
          refine Plan.extract_int rfl rfl rfl ?_
          refine Plan.extract_int rfl rfl rfl ?_
          refine Plan.assign_int rfl rfl ?_
          refine Plan.assign_int rfl rfl ?_
          refine Plan.nil ?_
          refine hK217 _ _ ?_; clear hK217
          refine W.seq_k fun K234 hK234 => ?_
          refine W.regionT [(0, true), (1, true), (2, true), (3, true), (4, true), (5, true), (6, true), (7, true), (8, true)] (by kernel_rfl) ?_
          refine Plan.move_int rfl rfl ?_
          refine Plan.move_int rfl rfl ?_
          by_cases hc235 : x_207 = x_220
          ·
            replace hR := ifT hR hc235
            refine Plan.cmpV (a := (x_207 : Int)) (b := (x_220 : Int)) (p := x_207 = x_220) (v := true) rfl rfl rfl rfl icmp_eq (decide_eq_true hc235) ?_
            refine Plan.move_bool rfl rfl ?_
            refine Plan.move_int rfl rfl ?_
            refine Plan.move_int rfl rfl ?_
            refine Plan.cmpP (a := (((x_208 : Nat) : Int) : Int)) (b := (((x_221 : Nat) : Int) : Int)) (p := x_208 = x_221) rfl rfl rfl rfl icmp_eqN ?_
            refine Plan.pickTb rfl rfl rfl ?_
            refine Plan.assign_bool rfl rfl ?_
            refine Plan.nil ?_
            refine hK234 _ _ ?_; clear hK234
            refine W.ret (blockR_ret (thenR_ret (finR_ret ?_)))
            have h236 := St.pickT (C := [_, _, _, _, _, _, _, _, _, _, _, _, _, _]) h232 [5, 6, 7, 8, 0, 1, 2, 3, 4] (by decide)
            simp only [pick, List.filterMap_cons, List.filterMap_nil, List.getElem?_cons_zero, List.getElem?_cons_succ, List.cons_append, List.nil_append] at h236
            subst r
            refine RetOk.mk (.tmp_bool rfl .nil) ?_
            obtain ⟨CF, hx1, hx2⟩ := hFr
            subst hx1
            subst hx2
            exact ⟨_, aqnRow4_224, pqnRow4_225, x_222.length, cqnRow4_227, FqnRow4_228, rfl, h236, ho233⟩
          ·
            replace hR := ifF hR hc235
            refine Plan.cmpV (a := (x_207 : Int)) (b := (x_220 : Int)) (p := x_207 = x_220) (v := false) rfl rfl rfl rfl icmp_eq (decide_eq_false hc235) ?_
            refine Plan.move_bool rfl rfl ?_
            refine Plan.passed rfl ?_
            refine Plan.passed rfl ?_
            refine Plan.passed rfl ?_
            refine Plan.pickFb rfl rfl rfl ?_
            refine Plan.assign_bool rfl rfl ?_
            refine Plan.nil ?_
            refine hK234 _ _ ?_; clear hK234
            refine W.ret (blockR_ret (thenR_ret (finR_ret ?_)))
            have h237 := St.pickT (C := [_, _, _, _, _, _, _, _, _, _, _, _, _, _]) h232 [5, 6, 7, 8, 0, 1, 2, 3, 4] (by decide)
            simp only [pick, List.filterMap_cons, List.filterMap_nil, List.getElem?_cons_zero, List.getElem?_cons_succ, List.cons_append, List.nil_append] at h237
            subst r
            refine RetOk.mk (.tmp_bool rfl .nil) ?_
            obtain ⟨CF, hx1, hx2⟩ := hFr
            subst hx1
            subst hx2
            exact ⟨_, aqnRow4_224, pqnRow4_225, x_222.length, cqnRow4_227, FqnRow4_228, rfl, h237, ho233⟩
        ·
          replace hR := ifF hR hc203
          refine W.condF (congrArg Value.bool (decide_eq_false hc203)) ?_
          refine W.seq_k fun K238 hK238 => ?_
          refine W.regionT [(0, true), (1, true)] (by kernel_rfl) ?_
          refine Plan.cmpP (a := (oKind11 : Int)) (b := (5 : Int)) (p := oKind11 = 5) rfl rfl rfl rfl icmp_eq ?_
          refine Plan.assign_bool rfl rfl ?_
          refine Plan.nil ?_
          refine hK238 _ _ ?_; clear hK238
          by_cases hc239 : oKind11 = 5
          ·
            replace hR := ifT hR hc239
            refine W.condT (congrArg Value.bool (decide_eq_true hc239)) ?_
            refine W.seq_k fun K240 hK240 => ?_
            refine W.regionT [(0, true), (1, false), (2, true), (3, false), (4, false), (5, true), (6, true), (7, false), (8, true), (9, false), (10, true), (11, true), (12, true)] (by kernel_rfl) ?_
            refine Plan.move_ptr rfl rfl ?_
            have h241 := St.pickT (C := [_, _, _, _, _, _, _, _, _, _, _, _, _, _]) h17 [5, 6, 7, 8, 0, 1, 2, 3, 4, 9, 10, 11, 12, 13] (by decide)
            simp only [pick, List.filterMap_cons, List.filterMap_nil, List.getElem?_cons_zero, List.getElem?_cons_succ, List.cons_append, List.nil_append] at h241
            obtain ⟨x_243, hr242, hR⟩ := hR
            refine Plan.call (vs := [.pointer (some ⟨bn_1, 0, none⟩)]) rfl FLaw23.call32 rfl (net_Net_Flights_ok (w0 := w0) (LP := LP) (by exact fun r hr => List.mem_append_right [_, _, _, _, _, _, _, _, _, _] (hLP r hr)) hr242 (show St B (w0.on [mapR kvI (D60.at LP) [] mnflights4 nflights4]) _ _ from h241)) ?_
            rintro _ w249 ⟨C249, ay0_244, py0_245, ny0_246, cy0_247, Fy0_248, rfl, h249, hf249_0⟩
            replace h249 : St B (w0.on [mapR kvI (D60.at (C249 ++ LP)) [] mnflights4 nflights4]) _ _ := h249
            replace h249 := St.pool (N := [_, _, _, _, _]) (R := [_, _, _, _, _, _, _, _, _, _]) h249
            obtain ⟨L, hL250⟩ : ∃ X, X = C249 ++ L := ⟨_, rfl⟩
            obtain ⟨LP, hQ250⟩ : ∃ X, X = C249 ++ LP := ⟨_, rfl⟩
            replace hLP : ∀ r ∈ LP, r ∈ L := by rw [hQ250, hL250]; exact frMemGrow hLP
            have h250 := St.re (N := [_, _, _, _, _, _, _, _, _, _, _, _, _, _, _]) hL250 h249
            simp only [List.cons_append, List.nil_append] at h250
            replace hFr : Fr2 _ _ L LP := hFr.step hL250 hQ250
            obtain ⟨ix251, hv251⟩ : ∃ i, Bx L i aoBytes15 oBytes15.length coBytes15 oBytes15 := ⟨_, by rw [hL250]; exact hoBytes15.app _⟩
            have hp251 : ∃ i, Bx LP i aoBytes15 oBytes15.length coBytes15 oBytes15 := by rw [hQ250]; exact ⟨_, qoBytes15.choose_spec.app _⟩
            have ho252 : LO (D60.at LP) [] arRow9 prRow9 ((rRow9).length) crRow9 FrRow9 rRow9 := by rw [hQ250]; exact LO.grow D60_lifts (fun r hr => List.mem_append_right _ hr) hrRow9
            have h254 := St.eqM (A' := LP) h250 (i := 0) rfl hQ250
            simp only [List.set_cons_zero, List.set_cons_succ] at h254
            obtain rfl := hf249_0.hl
            have hd249_0 : LO (D60.at LP) [] ay0_244 py0_245 (x_243).length cy0_247 Fy0_248 x_243 := LO.grow D60_lifts (fun r hr => (by rw [hQ250]; exact hr)) hf249_0
            refine ⟨_, rfl, .inl ⟨PIn.keep PIn.nil h254, ?_⟩⟩
            refine Plan.move_ptr rfl rfl ?_
            have h255 := St.pickT (C := [_, _, _, _, _, _, _, _, _, _, _, _, _, _, _]) h254 [10, 11, 12, 13, 14, 0, 1, 2, 3, 4, 5, 6, 7, 8, 9] (by decide)
            simp only [pick, List.filterMap_cons, List.filterMap_nil, List.getElem?_cons_zero, List.getElem?_cons_succ, List.cons_append, List.nil_append] at h255
            obtain ⟨x_257, x_258, hr256, hR⟩ := hR
            refine Plan.call (vs := [.pointer (some ⟨br_6, 0, none⟩)]) rfl FLaw23.call44 rfl (letheref23_Net_Flights_ok (LP := LP) (by exact fun r hr => List.mem_append_right [_, _, _, _, _, _, _, _, _, _] (hLP r hr)) (by exact LO.grow D60_lifts (fun r hr => hr) ho252) hr256 h255) ?_
            rintro _ w269 ⟨C269, ay0_259, py0_260, ny0_261, cy0_262, Fy0_263, aqnRow4_264, pqnRow4_265, nqnRow4_266, cqnRow4_267, FqnRow4_268, rfl, h269, hf269_0, hf269_1⟩
            try dsimp only at hf269_0 hf269_1
            obtain rfl := hf269_1.hl
            replace h269 := St.pool (N := [_, _, _, _, _, _]) (R := [_, _, _, _, _, _, _, _, _, _]) h269
            obtain ⟨L, hL270⟩ : ∃ X, X = C269 ++ L := ⟨_, rfl⟩
            obtain ⟨LP, hQ270⟩ : ∃ X, X = C269 ++ LP := ⟨_, rfl⟩
            replace hLP : ∀ r ∈ LP, r ∈ L := by rw [hQ270, hL270]; exact frMemGrow hLP
            have h270 := St.re (N := [_, _, _, _, _, _, _, _, _, _, _, _, _, _, _, _]) hL270 h269
            simp only [List.cons_append, List.nil_append] at h270
            replace hFr : Fr2 _ _ L LP := hFr.step hL270 hQ270
            obtain ⟨ix271, hv271⟩ : ∃ i, Bx L i aoBytes15 oBytes15.length coBytes15 oBytes15 := ⟨_, by rw [hL270]; exact hv251.app _⟩
            have hp271 : ∃ i, Bx LP i aoBytes15 oBytes15.length coBytes15 oBytes15 := by rw [hQ270]; exact ⟨_, hp251.choose_spec.app _⟩
            have ho272 : LO (D60.at LP) [] ay0_244 py0_245 ((x_243).length) cy0_247 Fy0_248 x_243 := by rw [hQ270]; exact LO.grow D60_lifts (fun r hr => List.mem_append_right _ hr) hd249_0
            have h273 := St.liftM (LP' := LP) h270 (i := 0) rfl D60_lifts (fun r hr => by rw [hQ270]; exact List.mem_append_right _ hr)
            simp only [List.set_cons_zero, List.set_cons_succ] at h273
            have ho274 : LO (D60.at LP) [] aqnRow4_264 pqnRow4_265 ((x_258).length) cqnRow4_267 FqnRow4_268 x_258 := LO.grow D60_lifts (fun r hr => (by rw [hQ270]; exact hr)) hf269_1
            obtain rfl := hf269_0.hl
            have hd269_0 : LO (D60.at LP) [] ay0_259 py0_260 (x_257).length cy0_262 Fy0_263 x_257 := LO.grow D60_lifts (fun r hr => (by rw [hQ270]; exact hr)) hf269_0
            refine ⟨_, rfl, .inl ⟨PIn.keep PIn.nil h273, ?_⟩⟩
            obtain ⟨x_276, hr275, hR⟩ := hR
            refine Plan.call (vs := [.slice ay0_244 x_243.length cy0_247, .slice ay0_259 x_257.length cy0_262]) rfl FLaw23.call43 rfl (lethelaw23_sameAll_ok (by exact (LV.grow D60_lifts (fun r hr => List.mem_append_right [_, _, _, _, _, _, _, _, _, _, _, _, _, _, _, _] (hLP r hr)) (LO.lvf EL.at_flat ho272 6 rfl))) (by exact (LV.grow D60_lifts (fun r hr => List.mem_append_right [_, _, _, _, _, _, _, _, _, _, _, _, _, _, _, _] (hLP r hr)) (LO.lvf EL.at_flat hd269_0 0 rfl))) hr275 h273) ?_
            rintro _ w277 ⟨rfl, h277⟩
            refine ⟨_, rfl, .inl ⟨PIn.keep PIn.nil h277, ?_⟩⟩
            by_cases hc278 : x_276 = true
            ·
              replace hR := ifT hR hc278
              obtain rfl : x_276 = true := hc278
              refine Plan.move_bool rfl rfl ?_
              refine Plan.move_ptr rfl rfl ?_
              have h279 := St.pickT (C := [_, _, _, _, _, _, _, _, _, _, _, _, _, _, _, _]) h277 [7, 8, 9, 10, 0, 1, 2, 3, 4, 5, 6, 11, 12, 13, 14, 15] (by decide)
              simp only [pick, List.filterMap_cons, List.filterMap_nil, List.getElem?_cons_zero, List.getElem?_cons_succ, List.cons_append, List.nil_append] at h279
              obtain ⟨x_281, hr280, hR⟩ := hR
              refine Plan.call (vs := [.pointer (some ⟨bn_1, 0, none⟩)]) rfl FLaw23.call45 rfl (net_Net_Next_ok (w0 := w0) (LP := LP) (by exact fun r hr => List.mem_append_right [_, _, _, _, _, _, _, _, _, _, _, _] (hLP r hr)) hr280 (show St B (w0.on [mapR kvI (D60.at LP) [] mnflights4 nflights4]) _ _ from h279)) ?_
              rintro _ w282 ⟨C282, rfl, h282⟩
              replace h282 : St B (w0.on [mapR kvI (D60.at (C282 ++ LP)) [] mnflights4 nflights4]) _ _ := h282
              replace h282 := St.pool (N := [_, _, _, _]) (R := [_, _, _, _, _, _, _, _, _, _, _, _]) h282
              obtain ⟨L, hL283⟩ : ∃ X, X = C282 ++ L := ⟨_, rfl⟩
              obtain ⟨LP, hQ283⟩ : ∃ X, X = C282 ++ LP := ⟨_, rfl⟩
              replace hLP : ∀ r ∈ LP, r ∈ L := by rw [hQ283, hL283]; exact frMemGrow hLP
              have h283 := St.re (N := [_, _, _, _, _, _, _, _, _, _, _, _, _, _, _, _]) hL283 h282
              simp only [List.cons_append, List.nil_append] at h283
              replace hFr : Fr2 _ _ L LP := hFr.step hL283 hQ283
              obtain ⟨ix284, hv284⟩ : ∃ i, Bx L i aoBytes15 oBytes15.length coBytes15 oBytes15 := ⟨_, by rw [hL283]; exact hv271.app _⟩
              have hp284 : ∃ i, Bx LP i aoBytes15 oBytes15.length coBytes15 oBytes15 := by rw [hQ283]; exact ⟨_, hp271.choose_spec.app _⟩
              have ho285 : LO (D60.at LP) [] ay0_259 py0_260 ((x_257).length) cy0_262 Fy0_263 x_257 := by rw [hQ283]; exact LO.grow D60_lifts (fun r hr => List.mem_append_right _ hr) hd269_0
              have ho286 : LO (D60.at LP) [] aqnRow4_264 pqnRow4_265 ((x_258).length) cqnRow4_267 FqnRow4_268 x_258 := by rw [hQ283]; exact LO.grow D60_lifts (fun r hr => List.mem_append_right _ hr) ho274
              have ho287 : LO (D60.at LP) [] ay0_244 py0_245 ((x_243).length) cy0_247 Fy0_248 x_243 := by rw [hQ283]; exact LO.grow D60_lifts (fun r hr => List.mem_append_right _ hr) ho272
              have h289 := St.eqM (A' := LP) h283 (i := 0) rfl hQ283
              simp only [List.set_cons_zero, List.set_cons_succ] at h289
              refine ⟨_, rfl, .inl ⟨PIn.keep PIn.nil h289, ?_⟩⟩
              refine Plan.move_ptr rfl rfl ?_
              have h290 := St.pickT (C := [_, _, _, _, _, _, _, _, _, _, _, _, _, _, _, _]) h289 [5, 6, 7, 9, 0, 1, 2, 3, 4, 8, 10, 11, 12, 13, 14, 15] (by decide)
              simp only [pick, List.filterMap_cons, List.filterMap_nil, List.getElem?_cons_zero, List.getElem?_cons_succ, List.cons_append, List.nil_append] at h290
              obtain ⟨x_292, hr291, hR⟩ := hR
              refine Plan.call (vs := [.pointer (some ⟨br_6, 0, none⟩)]) rfl FLaw23.call46 rfl (letheref23_Net_Next_ok (by exact (LV.grow D60_lifts (fun r hr => List.mem_append_right [_, _, _, _, _, _, _, _, _, _, _, _] (hLP r hr)) (LO.lvf EL.at_flat ho286 5 rfl))) hr291 h290) ?_
              rintro _ w293 ⟨rfl, h293⟩
              refine ⟨_, rfl, .inl ⟨PIn.keep PIn.nil h293, ?_⟩⟩
              refine Plan.cmpP (a := (x_281 : Int)) (b := (x_292 : Int)) (p := x_281 = x_292) rfl rfl rfl rfl icmp_eq ?_
              refine Plan.pickTb rfl rfl rfl ?_
              refine Plan.assign_bool rfl rfl ?_
              refine Plan.nil ?_
              refine hK240 _ _ ?_; clear hK240
              refine W.ret (blockR_ret (thenR_ret (finR_ret ?_)))
              have h294 := St.pickT (C := [_, _, _, _, _, _, _, _, _, _, _, _, _, _, _, _]) h293 [4, 5, 6, 7, 0, 1, 2, 9, 3] (by decide)
              simp only [pick, List.filterMap_cons, List.filterMap_nil, List.getElem?_cons_zero, List.getElem?_cons_succ, List.cons_append, List.nil_append] at h294
              subst r
              refine RetOk.mk (.tmp_bool rfl .nil) ?_
              obtain ⟨CF, hx1, hx2⟩ := hFr
              subst hx1
              subst hx2
              exact ⟨_, aqnRow4_264, pqnRow4_265, x_258.length, cqnRow4_267, FqnRow4_268, rfl, h294, ho286⟩
            ·
              replace hR := ifF hR hc278
              obtain rfl : x_276 = false := Bool.eq_false_iff.2 hc278
              refine Plan.move_bool rfl rfl ?_
              refine Plan.passed rfl ?_
              refine Plan.passed rfl ?_
              refine Plan.passed rfl ?_
              refine Plan.passed rfl ?_
              refine Plan.passed rfl ?_
              refine Plan.pickFb rfl rfl rfl ?_
              refine Plan.assign_bool rfl rfl ?_
              refine Plan.nil ?_
              refine hK240 _ _ ?_; clear hK240
              refine W.ret (blockR_ret (thenR_ret (finR_ret ?_)))
              have h295 := St.pickT (C := [_, _, _, _, _, _, _, _, _, _, _, _, _, _, _, _]) h277 [7, 8, 9, 10, 1, 2, 3, 4, 5] (by decide)
              simp only [pick, List.filterMap_cons, List.filterMap_nil, List.getElem?_cons_zero, List.getElem?_cons_succ, List.cons_append, List.nil_append] at h295
              subst r
              refine RetOk.mk (.tmp_bool rfl .nil) ?_
              obtain ⟨CF, hx1, hx2⟩ := hFr
              subst hx1
              subst hx2
              exact ⟨_, aqnRow4_264, pqnRow4_265, x_258.length, cqnRow4_267, FqnRow4_268, rfl, h295, ho274⟩
          ·
            replace hR := ifF hR hc239
            refine W.condF (congrArg Value.bool (decide_eq_false hc239)) ?_
            refine W.skip ?_
            refine blockR_norm ?_
            refine hK18 _ _ ?_; clear hK18
            refine W.seq_k fun K296 hK296 => ?_
            refine W.regionT [(0, true)] (by kernel_rfl) ?_
            refine Plan.assign_bool rfl rfl ?_
            refine Plan.nil ?_
            refine hK296 _ _ ?_; clear hK296
            refine W.ret (finR_ret ?_)
            have h297 := St.pickT (C := [_, _, _, _, _, _, _, _, _, _, _, _, _, _]) h17 [5, 6, 7, 8, 9, 10, 11, 12, 13] (by decide)
            simp only [pick, List.filterMap_cons, List.filterMap_nil, List.getElem?_cons_zero, List.getElem?_cons_succ, List.cons_append, List.nil_append] at h297
            subst r
            refine RetOk.mk (.tmp_bool rfl .nil) ?_
            exact ⟨[], arRow9, prRow9, rRow9.length, crRow9, FrRow9, rfl, h297, hrRow9⟩

end Go.Proofs.Ytbkgblhmlenocaa
