/-
  WALKS of the package's functions, printed by this session's own program (auto.py).
-/
import Derived.Test.YtbkgblhmlenocaaProg
import Derived.Test.YtbkgblhmlenocaaEd
import Derived.Test.YtbkgblhmlenocaaRLaw23
import Derived.Test.YtbkgblhmlenocaaEls
import Derived.Test.YtbkgblhmlenocaaWNet
namespace Go.Proofs.Ytbkgblhmlenocaa
set_option linter.unusedSimpArgs false
set_option linter.unusedVariables false
set_option linter.unusedSectionVars false
open Go Go.LW
theorem FLaw23.u5 : Try.prog.underlying 5 = some (.int .u8) := by kernel_rfl
theorem FLaw23.slu23 : Try.prog.underlying 23 = some (.slice 5) := by kernel_rfl
theorem FLaw23.sc3 : scalarT Try.prog 3 = true := by kernel_rfl
theorem FLaw23.mixed : Try.prog.follows .mixedOrders = true := by kernel_rfl
theorem FLaw23.z60 : zeroIs Try.prog 60 [(1, fun _ => .int .i64 0), (1, fun _ => .int .i64 0), (1, fun _ => .int .i64 0), (1, fun _ => .slice none 0 0)] := zeroIs_agg (by kernel_rfl)
theorem FLaw23.sz60 : szT Try.prog 60 4 = true := by kernel_rfl
theorem FLaw23.fld60_1 : fieldB Try.prog 60 1 1 = true := by kernel_rfl
theorem FLaw23.fld60_2 : fieldB Try.prog 60 2 2 = true := by kernel_rfl
theorem FLaw23.fld60_3 : fieldB Try.prog 60 3 3 = true := by kernel_rfl
theorem FLaw23.sc23 : scalarT Try.prog 23 = true := by kernel_rfl
theorem FLaw23.agg60 : aggT Try.prog 60 4 = true := by kernel_rfl
theorem FLaw23.fld60_0 : fieldB Try.prog 60 0 0 = true := by kernel_rfl
theorem FLaw23.row60 : rowB Try.prog 60 = true := by kernel_rfl
theorem FLaw23.call34 : callB Try.prog 34 = true := by kernel_rfl
theorem FLaw23.isl94 : ∃ el, Try.prog.underlying 94 = some (.slice el) := ⟨93, by kernel_rfl⟩
theorem FLaw23.sl94 : slB Try.prog 94 5 = true := by kernel_rfl
theorem FLaw23.fld93_1 : fieldB Try.prog 93 1 4 = true := by kernel_rfl
theorem FLaw23.sc4 : scalarT Try.prog 4 = true := by kernel_rfl
theorem FLaw23.str9 : Try.prog.underlying 9 = some .string := by kernel_rfl
theorem FLaw23.call69 : callB Try.prog 69 = true := by kernel_rfl
theorem FLaw23.sz4 : szT Try.prog 4 1 = true := by kernel_rfl
theorem FLaw23.fld93_0 : fieldB Try.prog 93 0 0 = true := by kernel_rfl

set_option maxRecDepth 8000 in
set_option maxHeartbeats 1000000 in
theorem lethelaw23_same_ok {B : Nat} {w0 : Base} {w : World} {L : List Rg} {aNumber1 : Int} {aFrom2 : Int} {aTo3 : Int} {aBytes4 : List Byte} {aaBytes4 : Option Addr} {naBytes4 caBytes4 iaBytes4 : Nat} (haBytes4 : Bx L iaBytes4 aaBytes4 naBytes4 caBytes4 aBytes4) {bNumber5 : Int} {bFrom6 : Int} {bTo7 : Int} {bBytes8 : List Byte} {abBytes8 : Option Addr} {nbBytes8 cbBytes8 ibBytes8 : Nat} (hbBytes8 : Bx L ibBytes8 abBytes8 nbBytes8 cbBytes8 bBytes8) {r : Bool} (hR : lethelaw23_same aNumber1 aFrom2 aTo3 aBytes4 bNumber5 bFrom6 bTo7 bBytes8 r) (HST : St B w0 (L) w) :
    Calls Try.prog 69 #[AG [(1, fun _ => .int .i64 aNumber1), (1, fun _ => .int .i64 aFrom2), (1, fun _ => .int .i64 aTo3), (1, fun _ => .slice aaBytes4 naBytes4 caBytes4)], AG [(1, fun _ => .int .i64 bNumber5), (1, fun _ => .int .i64 bFrom6), (1, fun _ => .int .i64 bTo7), (1, fun _ => .slice abBytes8 nbBytes8 cbBytes8)]] w fun e w' => e = .returned (.bool r) ∧ St B w0 (L) w' := by
  refine W.enter 33 Try.func69 rfl rfl rfl ?_
  unfold lethelaw23_same at hR
  have eaBytes4 := haBytes4.hl; subst eaBytes4
  have ebBytes8 := hbBytes8.hl; subst ebBytes8
  refine W.seq_k fun K9 hK9 => ?_
  refine W.regionT [(0, false), (1, false), (2, true)] (by kernel_rfl) ?_
  refine Plan.boxA HST rfl rfl PIn.nil fun b10 w10 hb10 h10 => ?_
  simp only [rngs, Nat.zero_add, Nat.reduceAdd, List.cons_append, List.nil_append] at h10
  refine Plan.boxA h10 rfl rfl PIn.nil fun b11 w11 hb11 h11 => ?_
  simp only [rngs, Nat.zero_add, Nat.reduceAdd, List.cons_append, List.nil_append] at h11
  refine Plan.assign_bool rfl rfl ?_
  refine Plan.nil ?_
  refine hK9 _ _ ?_; clear hK9
  refine W.seq_k fun K12 hK12 => ?_
  refine W.regionT [(0, true), (1, true), (2, true), (3, true), (4, true), (5, true), (6, true), (7, true), (8, true), (9, true), (10, true), (11, true), (12, true), (13, true), (14, true), (15, true), (16, true), (17, true), (18, true), (19, true), (20, true), (21, true), (22, true), (23, true), (24, true), (25, true), (26, true), (27, true), (28, true)] (by kernel_rfl) ?_
  refine Plan.fieldAddr0 FLaw23.fld60_0 rfl rfl ?_
  refine Plan.load0 h11 4 rfl rfl rfl (by omega) FLaw23.sc3 ?_
  refine Plan.fieldAddr0 FLaw23.fld60_0 rfl rfl ?_
  refine Plan.load0 h11 0 rfl rfl rfl (by omega) FLaw23.sc3 ?_
  by_cases hc13 : aNumber1 = bNumber5
  ·
    replace hR := ifT hR hc13
    refine Plan.cmpV (a := (aNumber1 : Int)) (b := (bNumber5 : Int)) (p := aNumber1 = bNumber5) (v := true) rfl rfl rfl rfl icmp_eq (decide_eq_true hc13) ?_
    refine Plan.move_bool rfl rfl ?_
    refine Plan.fieldAddr 1 FLaw23.fld60_1 rfl rfl ?_
    refine Plan.load0 h11 5 rfl rfl rfl (by omega) FLaw23.sc3 ?_
    refine Plan.fieldAddr 1 FLaw23.fld60_1 rfl rfl ?_
    refine Plan.load0 h11 1 rfl rfl rfl (by omega) FLaw23.sc3 ?_
    by_cases hc14 : aFrom2 = bFrom6
    ·
      replace hR := ifT hR hc14
      refine Plan.cmpV (a := (aFrom2 : Int)) (b := (bFrom6 : Int)) (p := aFrom2 = bFrom6) (v := true) rfl rfl rfl rfl icmp_eq (decide_eq_true hc14) ?_
      refine Plan.pickTb rfl rfl rfl ?_
      refine Plan.move_bool rfl rfl ?_
      refine Plan.fieldAddr 2 FLaw23.fld60_2 rfl rfl ?_
      refine Plan.load0 h11 6 rfl rfl rfl (by omega) FLaw23.sc3 ?_
      refine Plan.fieldAddr 2 FLaw23.fld60_2 rfl rfl ?_
      refine Plan.load0 h11 2 rfl rfl rfl (by omega) FLaw23.sc3 ?_
      by_cases hc15 : aTo3 = bTo7
      ·
        replace hR := ifT hR hc15
        refine Plan.cmpV (a := (aTo3 : Int)) (b := (bTo7 : Int)) (p := aTo3 = bTo7) (v := true) rfl rfl rfl rfl icmp_eq (decide_eq_true hc15) ?_
        refine Plan.pickTb rfl rfl rfl ?_
        refine Plan.move_bool rfl rfl ?_
        refine Plan.fieldAddr 3 FLaw23.fld60_3 rfl rfl ?_
        refine Plan.load0 h11 7 rfl rfl rfl (by omega) FLaw23.sc23 ?_
        refine Plan.toStrV h11 (haBytes4.app [_, _, _, _, _, _, _, _]) FLaw23.slu23 FLaw23.u5 FLaw23.str9 rfl rfl fun r16 hr16 => ?_
        replace hr16 := or_un [_, _, _, _, _, _, _, _] hr16
        refine Plan.fieldAddr 3 FLaw23.fld60_3 rfl rfl ?_
        refine Plan.load0 h11 3 rfl rfl rfl (by omega) FLaw23.sc23 ?_
        refine Plan.toStrV h11 (hbBytes8.app [_, _, _, _, _, _, _, _]) FLaw23.slu23 FLaw23.u5 FLaw23.str9 rfl rfl fun r17 hr17 => ?_
        replace hr17 := or_un [_, _, _, _, _, _, _, _] hr17
        refine Plan.eqStrV (v := decide (aBytes4 = bBytes8)) rfl rfl rfl rfl ?_
        refine Plan.pickTb rfl rfl rfl ?_
        refine Plan.assign_bool rfl rfl ?_
        refine Plan.nil ?_
        refine hK12 _ _ ?_; clear hK12
        refine W.ret (finR_ret ?_)
        have h18 := St.pickT (C := [_, _, _, _, _, _, _, _]) h11 [] (by decide)
        simp only [pick, List.filterMap_cons, List.filterMap_nil, List.getElem?_cons_zero, List.getElem?_cons_succ, List.cons_append, List.nil_append] at h18
        subst r
        refine RetOk.mk (.tmp_bool rfl .nil) ?_
        exact ⟨rfl, h18⟩
      ·
        replace hR := ifF hR hc15
        refine Plan.cmpV (a := (aTo3 : Int)) (b := (bTo7 : Int)) (p := aTo3 = bTo7) (v := false) rfl rfl rfl rfl icmp_eq (decide_eq_false hc15) ?_
        refine Plan.pickTb rfl rfl rfl ?_
        refine Plan.move_bool rfl rfl ?_
        refine Plan.passed rfl ?_
        refine Plan.passed rfl ?_
        refine Plan.passed rfl ?_
        refine Plan.passed rfl ?_
        refine Plan.passed rfl ?_
        refine Plan.passed rfl ?_
        refine Plan.passed rfl ?_
        refine Plan.pickFb rfl rfl rfl ?_
        refine Plan.assign_bool rfl rfl ?_
        refine Plan.nil ?_
        refine hK12 _ _ ?_; clear hK12
        refine W.ret (finR_ret ?_)
        have h19 := St.pickT (C := [_, _, _, _, _, _, _, _]) h11 [] (by decide)
        simp only [pick, List.filterMap_cons, List.filterMap_nil, List.getElem?_cons_zero, List.getElem?_cons_succ, List.cons_append, List.nil_append] at h19
        subst r
        refine RetOk.mk (.tmp_bool rfl .nil) ?_
        exact ⟨rfl, h19⟩
    ·
      replace hR := ifF hR hc14
      refine Plan.cmpV (a := (aFrom2 : Int)) (b := (bFrom6 : Int)) (p := aFrom2 = bFrom6) (v := false) rfl rfl rfl rfl icmp_eq (decide_eq_false hc14) ?_
      refine Plan.pickTb rfl rfl rfl ?_
      refine Plan.move_bool rfl rfl ?_
      refine Plan.passed rfl ?_
      refine Plan.passed rfl ?_
      refine Plan.passed rfl ?_
      refine Plan.passed rfl ?_
      refine Plan.passed rfl ?_
      refine Plan.pickFb rfl rfl rfl ?_
      refine Plan.move_bool rfl rfl ?_
      refine Plan.passed rfl ?_
      refine Plan.passed rfl ?_
      refine Plan.passed rfl ?_
      refine Plan.passed rfl ?_
      refine Plan.passed rfl ?_
      refine Plan.passed rfl ?_
      refine Plan.passed rfl ?_
      refine Plan.pickFb rfl rfl rfl ?_
      refine Plan.assign_bool rfl rfl ?_
      refine Plan.nil ?_
      refine hK12 _ _ ?_; clear hK12
      refine W.ret (finR_ret ?_)
      have h20 := St.pickT (C := [_, _, _, _, _, _, _, _]) h11 [] (by decide)
      simp only [pick, List.filterMap_cons, List.filterMap_nil, List.getElem?_cons_zero, List.getElem?_cons_succ, List.cons_append, List.nil_append] at h20
      subst r
      refine RetOk.mk (.tmp_bool rfl .nil) ?_
      exact ⟨rfl, h20⟩
  ·
    replace hR := ifF hR hc13
    refine Plan.cmpV (a := (aNumber1 : Int)) (b := (bNumber5 : Int)) (p := aNumber1 = bNumber5) (v := false) rfl rfl rfl rfl icmp_eq (decide_eq_false hc13) ?_
    refine Plan.move_bool rfl rfl ?_
    refine Plan.passed rfl ?_
    refine Plan.passed rfl ?_
    refine Plan.passed rfl ?_
    refine Plan.passed rfl ?_
    refine Plan.passed rfl ?_
    refine Plan.pickFb rfl rfl rfl ?_
    refine Plan.move_bool rfl rfl ?_
    refine Plan.passed rfl ?_
    refine Plan.passed rfl ?_
    refine Plan.passed rfl ?_
    refine Plan.passed rfl ?_
    refine Plan.passed rfl ?_
    refine Plan.pickFb rfl rfl rfl ?_
    refine Plan.move_bool rfl rfl ?_
    refine Plan.passed rfl ?_
    refine Plan.passed rfl ?_
    refine Plan.passed rfl ?_
    refine Plan.passed rfl ?_
    refine Plan.passed rfl ?_
    refine Plan.passed rfl ?_
    refine Plan.passed rfl ?_
    refine Plan.pickFb rfl rfl rfl ?_
    refine Plan.assign_bool rfl rfl ?_
    refine Plan.nil ?_
    refine hK12 _ _ ?_; clear hK12
    refine W.ret (finR_ret ?_)
    have h21 := St.pickT (C := [_, _, _, _, _, _, _, _]) h11 [] (by decide)
    simp only [pick, List.filterMap_cons, List.filterMap_nil, List.getElem?_cons_zero, List.getElem?_cons_succ, List.cons_append, List.nil_append] at h21
    subst r
    refine RetOk.mk (.tmp_bool rfl .nil) ?_
    exact ⟨rfl, h21⟩


set_option maxRecDepth 8000 in
set_option maxHeartbeats 1000000 in
theorem lethelaw23_brought_ok {B : Nat} {w0 : Base} {w : World} {L : List Rg} {LP : List Rg} (hLP : ∀ r ∈ LP, r ∈ L) {bn_1 : Nat} {nnodes2 : Int} {nmost3 : Int} {nflights4 : List (Int × (Int × Int × Int × (List Byte)))} {mnflights4 : Nat} {nnext5 : Int} {l_6 : List (Int × Int × Int × (List Byte) × Bool)} {al_6 : Option Addr} {pl_6 : Option Nat} {nl_6 cl_6 : Nat} {Fl_6 : Nat → Value} (hl_6 : LO (D93.at LP) [] al_6 pl_6 nl_6 cl_6 Fl_6 l_6) {k7 : Int} {r : (Bool × (List (Int × (Int × Int × Int × (List Byte)))) × (List (Int × Int × Int × (List Byte) × Bool)))} (hR : lethelaw23_brought nnodes2 nmost3 nflights4 nnext5 l_6 k7 r) (HST : St B (w0.on [mapR kvI (D60.at LP) [] mnflights4 nflights4]) (⟨some bn_1, 0, 1, fun _ => .int .i64 nnodes2, true⟩ :: ⟨some bn_1, 1, 1, fun _ => .int .i64 nmost3, true⟩ :: ⟨some bn_1, 2, 1, fun _ => .map (some mnflights4), true⟩ :: ⟨some bn_1, 3, 1, fun _ => .int .i64 nnext5, true⟩ :: ⟨pl_6, 0, cl_6 * 5, Fl_6, true⟩ :: L) w) :
    Calls Try.prog 47 #[.pointer (some ⟨bn_1, 0, none⟩), .slice al_6 nl_6 cl_6, .int .i64 k7] w fun e w' => ∃ C : List Rg, ∃ Fql_6 : Nat → Value, e = .returned (.bool r.1) ∧ St B (w0.on [mapR kvI (D60.at (C ++ LP)) [] mnflights4 r.2.1]) (⟨some bn_1, 0, 1, fun _ => .int .i64 nnodes2, true⟩ :: ⟨some bn_1, 1, 1, fun _ => .int .i64 nmost3, true⟩ :: ⟨some bn_1, 2, 1, fun _ => .map (some mnflights4), true⟩ :: ⟨some bn_1, 3, 1, fun _ => .int .i64 nnext5, true⟩ :: ⟨pl_6, 0, cl_6 * 5, Fql_6, true⟩ :: (C ++ L)) w' ∧ LO (D93.at (C ++ LP)) [] al_6 pl_6 nl_6 cl_6 Fql_6 r.2.2 := by
  refine W.enter 61 Try.func47 rfl rfl rfl ?_
  unfold lethelaw23_brought at hR
  have hFr : Fr2 L LP L LP := Fr2.refl _ _
  have el_6 := hl_6.hl; subst el_6
  refine W.seq_k fun K8 hK8 => ?_
  refine W.regionT [(0, true)] (by kernel_rfl) ?_
  refine Plan.assign_bool rfl rfl ?_
  refine Plan.nil ?_
  refine hK8 _ _ ?_; clear hK8
  refine W.seq_k fun K9 hK9 => ?_
  refine W.regionT [(0, true), (1, true), (2, false), (3, true), (4, true), (5, true), (6, false), (7, false), (8, true)] (by kernel_rfl) ?_
  refine Plan.move_ptr rfl rfl ?_
  refine Plan.move_int rfl rfl ?_
  obtain ⟨x_11, x_12, x_13, x_14, x_15, x_16, hr10, hR⟩ := hR
  refine Plan.call (vs := [.pointer (some ⟨bn_1, 0, none⟩), .int .i64 k7]) rfl FLaw23.call34 rfl (net_Net_Deliver_ok (w0 := w0) (LP := LP) (by exact fun r hr => List.mem_append_right [_] (hLP r hr)) hr10 (show St B (w0.on [mapR kvI (D60.at LP) [] mnflights4 nflights4]) _ _ from HST)) ?_
  rintro _ w20 ⟨C20, iy0_3_17, ay0_3_18, cy0_3_19, rfl, h20, hf20_0⟩
  replace h20 : St B (w0.on [mapR kvI (D60.at (C20 ++ LP)) [] mnflights4 x_16]) _ _ := h20
  try dsimp only at hf20_0
  replace h20 := St.pool (N := [_, _, _, _]) (R := [_]) h20
  obtain ⟨L, hL21⟩ : ∃ X, X = C20 ++ L := ⟨_, rfl⟩
  obtain ⟨LP, hQ21⟩ : ∃ X, X = C20 ++ LP := ⟨_, rfl⟩
  replace hLP : ∀ r ∈ LP, r ∈ L := by rw [hQ21, hL21]; exact frMemGrow hLP
  have h21 := St.re (N := [_, _, _, _, _]) hL21 h20
  simp only [List.cons_append, List.nil_append] at h21
  replace hFr : Fr2 _ _ L LP := hFr.step hL21 hQ21
  have ho22 : LO (D93.at LP) [] al_6 pl_6 ((l_6).length) cl_6 Fl_6 l_6 := by rw [hQ21]; exact LO.grow D93_lifts (fun r hr => List.mem_append_right _ hr) hl_6
  have h24 := St.eqM (A' := LP) h21 (i := 0) rfl hQ21
  simp only [List.set_cons_zero, List.set_cons_succ] at h24
  have hp25 : ∃ i, Bx LP i ay0_3_18 x_14.length cy0_3_19 x_14 := by rw [hQ21]; exact ⟨_, hf20_0⟩
  obtain ⟨ix25, hv25⟩ := Bx.lift hp25.choose_spec hLP
  refine ⟨_, rfl, .inl ⟨PIn.keep PIn.nil h24, ?_⟩⟩
  refine Plan.move_tuple rfl rfl ?_
  refine Plan.extract_agg rfl rfl rfl ?_
  refine Plan.extract_int rfl rfl rfl ?_
  refine Plan.alloc h24 rfl FLaw23.z60 PIn.nil fun b26 w26 hb26 h26 => ?_
  simp only [rngs, Nat.zero_add, Nat.reduceAdd, List.cons_append, List.nil_append] at h26
  refine Plan.storeP (ps := [(1, fun _ => .int .i64 x_11), (1, fun _ => .int .i64 x_12), (1, fun _ => .int .i64 x_13), (1, fun _ => .slice ay0_3_18 x_14.length cy0_3_19)]) h26 rfl rfl rfl (.cons 0 rfl (.cons 1 rfl (.cons 2 rfl (.cons 3 rfl .nil)))) ⟨fun _ _ => rfl, fun _ _ => rfl, fun _ _ => rfl, fun _ _ => rfl, trivial⟩ FLaw23.sz60 (EffO.keep PIn.nil) fun w27 h27 => ?_
  simp only [List.cons_append, List.nil_append, List.set_cons_zero, List.set_cons_succ] at h27
  refine Plan.assign_int rfl rfl ?_
  refine Plan.nil ?_
  refine hK9 _ _ ?_; clear hK9
  refine W.seq_k fun K28 hK28 => ?_
  refine W.seq_k fun K44 hK44 => ?_
  refine W.regionT [(0, true), (1, true), (2, true), (3, true), (4, true), (5, true), (6, true), (7, true), (8, true), (9, true), (10, true), (11, true)] (by kernel_rfl) ?_
  refine Plan.move_int rfl rfl ?_
  refine Plan.move_slice rfl rfl ?_
  refine Plan.len FLaw23.isl94 rfl rfl ?_
  by_cases hc45 : ((l_6.length : Nat) : Int) ≤ k7
  ·
    replace hR := ifT hR hc45
    refine Plan.cmpV (a := (k7 : Int)) (b := (((l_6.length : Nat) : Int) : Int)) (p := ((l_6.length : Nat) : Int) ≤ k7) (v := true) rfl rfl rfl rfl icmp_ge (decide_eq_true hc45) ?_
    refine Plan.move_bool rfl rfl ?_
    refine Plan.passed rfl ?_
    refine Plan.passed rfl ?_
    refine Plan.passed rfl ?_
    refine Plan.passed rfl ?_
    refine Plan.passed rfl ?_
    refine Plan.passed rfl ?_
    refine Plan.pickTb rfl rfl rfl ?_
    refine Plan.nil ?_
    refine hK44 _ _ ?_; clear hK44
    refine W.condT rfl ?_
    refine W.seq_k fun K46 hK46 => ?_
    refine W.regionT [(0, true), (1, true), (2, true), (3, true), (4, true), (5, false), (6, true), (7, true)] (by kernel_rfl) ?_
    refine Plan.move_int rfl rfl ?_
    by_cases hc47 : x_15 = 230
    ·
      replace hR := ifT hR hc47
      refine Plan.cmpV (a := (((x_15 : Nat) : Int) : Int)) (b := (230 : Int)) (p := x_15 = 230) (v := true) rfl rfl rfl rfl icmp_eqN (decide_eq_true hc47) ?_
      refine Plan.move_bool rfl rfl ?_
      refine Plan.loadA h27 rfl rfl (.cons 0 rfl (.cons 1 rfl (.cons 2 rfl (.cons 3 rfl .nil)))) FLaw23.agg60 ?_
      refine Plan.buildZ FLaw23.row60 FLaw23.z60 rfl ?_
      obtain ⟨x_49, hr48, hR⟩ := hR
      refine Plan.call (vs := [AG [(1, fun _ => .int .i64 x_11), (1, fun _ => .int .i64 x_12), (1, fun _ => .int .i64 x_13), (1, fun _ => .slice ay0_3_18 x_14.length cy0_3_19)], AG [(1, fun _ => VN 0), (1, fun _ => VN 0), (1, fun _ => VN 0), (1, fun _ => .slice none 0 0)]]) rfl FLaw23.call69 rfl (lethelaw23_same_ok (hv25.app [_, _, _, _, _, _, _, _, _]) (by exact (Bx.nil 0)) hr48 h27) ?_
      rintro _ w50 ⟨rfl, h50⟩
      refine ⟨_, rfl, .inr ⟨rfl, ?_⟩⟩
      refine Plan.pickTb rfl rfl rfl ?_
      refine Plan.assign_bool rfl rfl ?_
      refine Plan.nil ?_
      refine hK46 _ _ ?_; clear hK46
      refine W.ret (thenR_ret (finR_ret ?_))
      have h51 := St.pickT (C := [_, _, _, _, _, _, _, _, _]) h50 [4, 5, 6, 7, 8] (by decide)
      simp only [pick, List.filterMap_cons, List.filterMap_nil, List.getElem?_cons_zero, List.getElem?_cons_succ, List.cons_append, List.nil_append] at h51
      subst r
      refine RetOk.mk (.tmp_bool rfl .nil) ?_
      obtain ⟨CF, hx1, hx2⟩ := hFr
      subst hx1
      subst hx2
      exact ⟨_, Fl_6, rfl, h51, ho22⟩
    ·
      replace hR := ifF hR hc47
      refine Plan.cmpV (a := (((x_15 : Nat) : Int) : Int)) (b := (230 : Int)) (p := x_15 = 230) (v := false) rfl rfl rfl rfl icmp_eqN (decide_eq_false hc47) ?_
      refine Plan.move_bool rfl rfl ?_
      refine Plan.passed rfl ?_
      refine Plan.passed rfl ?_
      refine Plan.passed rfl ?_
      refine Plan.pickFb rfl rfl rfl ?_
      refine Plan.assign_bool rfl rfl ?_
      refine Plan.nil ?_
      refine hK46 _ _ ?_; clear hK46
      refine W.ret (thenR_ret (finR_ret ?_))
      have h52 := St.pickT (C := [_, _, _, _, _, _, _, _, _]) h27 [4, 5, 6, 7, 8] (by decide)
      simp only [pick, List.filterMap_cons, List.filterMap_nil, List.getElem?_cons_zero, List.getElem?_cons_succ, List.cons_append, List.nil_append] at h52
      subst r
      refine RetOk.mk (.tmp_bool rfl .nil) ?_
      obtain ⟨CF, hx1, hx2⟩ := hFr
      subst hx1
      subst hx2
      exact ⟨_, Fl_6, rfl, h52, ho22⟩
  ·
    replace hR := ifF hR hc45
    refine Plan.cmpV (a := (k7 : Int)) (b := (((l_6.length : Nat) : Int) : Int)) (p := ((l_6.length : Nat) : Int) ≤ k7) (v := false) rfl rfl rfl rfl icmp_ge (decide_eq_false hc45) ?_
    refine Plan.move_bool rfl rfl ?_
    refine Plan.move_slice rfl rfl ?_
    refine Plan.move_int rfl rfl ?_
    obtain ⟨hc53, hR⟩ := hR
    refine Plan.idxLVS (D := (D93.at LP)) (j := k7.toNat) h27 (LO.lvf EL.at_flat ho22 8 rfl) FLaw23.sl94 rfl rfl (congrArg (Value.int .i64) (Int.toNat_of_nonneg hc53.1).symm) (toNat_lt hc53.1 hc53.2) ?_
    refine Plan.fieldLV (D := (D93.at LP)) (j := k7.toNat) (sz := 5) h27 4 (LO.lvf EL.at_flat ho22 8 rfl) (toNat_lt hc53.1 hc53.2) FLaw23.fld93_1 rfl rfl ?_
    refine Plan.loadLVf (D := (D93.at LP)) (X := l_6) (j := k7.toNat) (sz := 5) (off := 4) h27 ((0 : Int), (0 : Int), (0 : Int), ([] : List Byte), false) (fun _ x => .bool x.2.2.2.2) (LO.lvf EL.at_flat ho22 8 rfl) rfl rfl (toNat_lt hc53.1 hc53.2) rfl (by decide) (fun _ _ => rfl) FLaw23.sc4 fun b54 r54 hs54 hr54 => ?_
    refine Plan.not rfl rfl ?_
    refine Plan.pickFb rfl rfl rfl ?_
    refine Plan.nil ?_
    refine hK44 _ _ ?_; clear hK44
    by_cases hc55 : (l_6.getD k7.toNat ((0 : Int), (0 : Int), (0 : Int), ([] : List Byte), false)).2.2.2.2 = true
    ·
      replace hR := ifT hR hc55
      refine W.condF (congrArg Value.bool (congrArg Bool.not hc55)) ?_
      refine W.skip ?_
      refine hK28 _ _ ?_; clear hK28
      refine W.seq_k fun K56 hK56 => ?_
      refine W.regionT [(0, true), (1, true), (2, true), (3, true), (4, false)] (by kernel_rfl) ?_
      refine Plan.move_slice rfl rfl ?_
      refine Plan.move_int rfl rfl ?_
      obtain ⟨hc57, hR⟩ := hR
      refine Plan.idxLVS (D := (D93.at LP)) (j := k7.toNat) h27 (LO.lvf EL.at_flat ho22 8 rfl) FLaw23.sl94 rfl rfl (congrArg (Value.int .i64) (Int.toNat_of_nonneg hc57.1).symm) (toNat_lt hc57.1 hc57.2) ?_
      refine Plan.fieldLV (D := (D93.at LP)) (j := k7.toNat) (sz := 5) h27 4 (LO.lvf EL.at_flat ho22 8 rfl) (toNat_lt hc57.1 hc57.2) FLaw23.fld93_1 rfl rfl ?_
      refine Plan.storeLOf (D := (D93.at LP)) (j := k7.toNat) (sz := 5) (off := 4) h27 ((0 : Int), (0 : Int), (0 : Int), ([] : List Byte), false) ((l_6.getD k7.toNat ((0 : Int), (0 : Int), (0 : Int), ([] : List Byte), false)).1, (l_6.getD k7.toNat ((0 : Int), (0 : Int), (0 : Int), ([] : List Byte), false)).2.1, (l_6.getD k7.toNat ((0 : Int), (0 : Int), (0 : Int), ([] : List Byte), false)).2.2.1, (l_6.getD k7.toNat ((0 : Int), (0 : Int), (0 : Int), ([] : List Byte), false)).2.2.2.1, false) (.bool false) 8 ho22 (fun b hs => ⟨by exact hs, by rfl⟩) rfl rfl rfl rfl (toNat_lt hc57.1 hc57.2) rfl (by decide) rfl FLaw23.sz4 rfl fun w58 F58 ho58 h58 => ?_
      simp only [List.cons_append, List.nil_append, List.set_cons_zero, List.set_cons_succ] at h58
      have e58 : (l_6.set k7.toNat ((l_6.getD k7.toNat ((0 : Int), (0 : Int), (0 : Int), ([] : List Byte), false)).1, (l_6.getD k7.toNat ((0 : Int), (0 : Int), (0 : Int), ([] : List Byte), false)).2.1, (l_6.getD k7.toNat ((0 : Int), (0 : Int), (0 : Int), ([] : List Byte), false)).2.2.1, (l_6.getD k7.toNat ((0 : Int), (0 : Int), (0 : Int), ([] : List Byte), false)).2.2.2.1, false)).length = l_6.length := List.length_set
      replace ho58 : LO (D93.at LP) [] al_6 pl_6 l_6.length cl_6 F58 (l_6.set k7.toNat ((l_6.getD k7.toNat ((0 : Int), (0 : Int), (0 : Int), ([] : List Byte), false)).1, (l_6.getD k7.toNat ((0 : Int), (0 : Int), (0 : Int), ([] : List Byte), false)).2.1, (l_6.getD k7.toNat ((0 : Int), (0 : Int), (0 : Int), ([] : List Byte), false)).2.2.1, (l_6.getD k7.toNat ((0 : Int), (0 : Int), (0 : Int), ([] : List Byte), false)).2.2.2.1, false)) := ho58
      refine Plan.nil ?_
      refine hK56 _ _ ?_; clear hK56
      refine W.seq_k fun K59 hK59 => ?_
      refine W.regionT [(0, true), (1, true), (2, false), (3, true), (4, true), (5, true), (6, false), (7, false), (8, true)] (by kernel_rfl) ?_
      refine Plan.move_ptr rfl rfl ?_
      refine Plan.move_int rfl rfl ?_
      have h60 := St.pickT (C := [_, _, _, _, _, _, _, _, _]) h58 [4, 5, 6, 7, 0, 1, 2, 3, 8] (by decide)
      simp only [pick, List.filterMap_cons, List.filterMap_nil, List.getElem?_cons_zero, List.getElem?_cons_succ, List.cons_append, List.nil_append] at h60
      obtain ⟨x_62, x_63, x_64, x_65, x_66, x_67, hr61, hR⟩ := hR
      refine Plan.call (vs := [.pointer (some ⟨bn_1, 0, none⟩), .int .i64 k7]) rfl FLaw23.call34 rfl (net_Net_Deliver_ok (w0 := w0) (LP := LP) (by exact fun r hr => List.mem_append_right [_, _, _, _, _] (hLP r hr)) hr61 (show St B (w0.on [mapR kvI (D60.at LP) [] mnflights4 x_16]) _ _ from h60)) ?_
      rintro _ w71 ⟨C71, iy0_3_68, ay0_3_69, cy0_3_70, rfl, h71, hf71_0⟩
      replace h71 : St B (w0.on [mapR kvI (D60.at (C71 ++ LP)) [] mnflights4 x_67]) _ _ := h71
      try dsimp only at hf71_0
      replace h71 := St.pool (N := [_, _, _, _]) (R := [_, _, _, _, _]) h71
      obtain ⟨L, hL72⟩ : ∃ X, X = C71 ++ L := ⟨_, rfl⟩
      obtain ⟨LP, hQ72⟩ : ∃ X, X = C71 ++ LP := ⟨_, rfl⟩
      replace hLP : ∀ r ∈ LP, r ∈ L := by rw [hQ72, hL72]; exact frMemGrow hLP
      have h72 := St.re (N := [_, _, _, _, _, _, _, _, _]) hL72 h71
      simp only [List.cons_append, List.nil_append] at h72
      replace hFr : Fr2 _ _ L LP := hFr.step hL72 hQ72
      obtain ⟨ix73, hv73⟩ : ∃ i, Bx L i ay0_3_18 x_14.length cy0_3_19 x_14 := ⟨_, by rw [hL72]; exact hv25.app _⟩
      have hp73 : ∃ i, Bx LP i ay0_3_18 x_14.length cy0_3_19 x_14 := by rw [hQ72]; exact ⟨_, hp25.choose_spec.app _⟩
      have ho74 : LO (D93.at LP) [] al_6 pl_6 l_6.length cl_6 F58 (l_6.set k7.toNat ((l_6.getD k7.toNat ((0 : Int), (0 : Int), (0 : Int), ([] : List Byte), false)).1, (l_6.getD k7.toNat ((0 : Int), (0 : Int), (0 : Int), ([] : List Byte), false)).2.1, (l_6.getD k7.toNat ((0 : Int), (0 : Int), (0 : Int), ([] : List Byte), false)).2.2.1, (l_6.getD k7.toNat ((0 : Int), (0 : Int), (0 : Int), ([] : List Byte), false)).2.2.2.1, false)) := by rw [hQ72]; exact LO.grow D93_lifts (fun r hr => List.mem_append_right _ hr) ho58
      have h76 := St.eqM (A' := LP) h72 (i := 0) rfl hQ72
      simp only [List.set_cons_zero, List.set_cons_succ] at h76
      have hp77 : ∃ i, Bx LP i ay0_3_69 x_65.length cy0_3_70 x_65 := by rw [hQ72]; exact ⟨_, hf71_0⟩
      obtain ⟨ix77, hv77⟩ := Bx.lift hp77.choose_spec hLP
      refine ⟨_, rfl, .inl ⟨PIn.keep PIn.nil h76, ?_⟩⟩
      refine Plan.move_tuple rfl rfl ?_
      refine Plan.extract_agg rfl rfl rfl ?_
      refine Plan.extract_int rfl rfl rfl ?_
      refine Plan.alloc h76 rfl FLaw23.z60 PIn.nil fun b78 w78 hb78 h78 => ?_
      simp only [rngs, Nat.zero_add, Nat.reduceAdd, List.cons_append, List.nil_append] at h78
      refine Plan.storeP (ps := [(1, fun _ => .int .i64 x_62), (1, fun _ => .int .i64 x_63), (1, fun _ => .int .i64 x_64), (1, fun _ => .slice ay0_3_69 x_65.length cy0_3_70)]) h78 rfl rfl rfl (.cons 0 rfl (.cons 1 rfl (.cons 2 rfl (.cons 3 rfl .nil)))) ⟨fun _ _ => rfl, fun _ _ => rfl, fun _ _ => rfl, fun _ _ => rfl, trivial⟩ FLaw23.sz60 (EffO.keep PIn.nil) fun w79 h79 => ?_
      simp only [List.cons_append, List.nil_append, List.set_cons_zero, List.set_cons_succ] at h79
      refine Plan.assign_int rfl rfl ?_
      refine Plan.nil ?_
      refine hK59 _ _ ?_; clear hK59
      refine W.seq_k fun K80 hK80 => ?_
      refine W.regionD FLaw23.mixed [(0, true), (1, true), (2, true), (3, true), (4, true), (5, true), (6, true), (7, true), (8, true), (9, false), (10, true), (11, true), (12, true), (13, true), (14, true), (15, true)] (by kernel_rfl) ?_
      have h81 := h79.drew
      refine Plan.move_int rfl rfl ?_
      by_cases hc82 : x_15 = 0
      ·
        replace hR := ifT hR hc82
        refine Plan.cmpV (a := (((x_15 : Nat) : Int) : Int)) (b := (0 : Int)) (p := x_15 = 0) (v := true) rfl rfl rfl rfl icmp_eqN (decide_eq_true hc82) ?_
        refine Plan.move_bool rfl rfl ?_
        refine Plan.loadA h81 rfl rfl (.cons 8 rfl (.cons 9 rfl (.cons 10 rfl (.cons 11 rfl .nil)))) FLaw23.agg60 ?_
        refine Plan.move_slice rfl rfl ?_
        refine Plan.move_int rfl rfl ?_
        obtain ⟨hc83, hR⟩ := hR
        refine Plan.idxLVS (D := (D93.at LP)) (j := k7.toNat) h81 (LO.lvf EL.at_flat ho74 12 rfl) FLaw23.sl94 rfl rfl (congrArg (Value.int .i64) (Int.toNat_of_nonneg hc83.1).symm) (toNat_lt hc83.1 hc83.2) ?_
        refine Plan.fieldLV (D := (D93.at LP)) (j := k7.toNat) (sz := 5) h81 0 (LO.lvf EL.at_flat ho74 12 rfl) (toNat_lt hc83.1 hc83.2) FLaw23.fld93_0 rfl rfl ?_
        refine Plan.loadLVg (D := (D93.at LP)) (X := (l_6.set k7.toNat ((l_6.getD k7.toNat ((0 : Int), (0 : Int), (0 : Int), ([] : List Byte), false)).1, (l_6.getD k7.toNat ((0 : Int), (0 : Int), (0 : Int), ([] : List Byte), false)).2.1, (l_6.getD k7.toNat ((0 : Int), (0 : Int), (0 : Int), ([] : List Byte), false)).2.2.1, (l_6.getD k7.toNat ((0 : Int), (0 : Int), (0 : Int), ([] : List Byte), false)).2.2.2.1, false))) (j := k7.toNat) (sz := 5) (off := 0) (m := 4) h81 ((0 : Int), (0 : Int), (0 : Int), ([] : List Byte), false) (fun b x => [(1, fun _ => .int .i64 x.1), (1, fun _ => .int .i64 x.2.1), (1, fun _ => .int .i64 x.2.2.1), (1, fun _ => .slice b.1 x.2.2.2.1.length b.2)]) (LO.lvf EL.at_flat ho74 12 rfl) rfl rfl (toNat_lt hc83.1 hc83.2) rfl (by decide) (fun _ _ => rfl) FLaw23.agg60 fun b84 r84 hs84 hr84 => ?_
        obtain ⟨i84_3, hv84_3⟩ := hs84
        have hp84_3 : ∃ i, Bx LP i _ _ _ _ := ⟨_, hv84_3⟩
        obtain ⟨i84_3, hv84_3⟩ := Bx.lift hv84_3 hLP
        obtain ⟨x_86, hr85, hR⟩ := hR
        refine Plan.call (vs := [AG [(1, fun _ => .int .i64 x_11), (1, fun _ => .int .i64 x_12), (1, fun _ => .int .i64 x_13), (1, fun _ => .slice ay0_3_18 x_14.length cy0_3_19)], AG [(1, fun _ => .int .i64 (((l_6.set k7.toNat ((l_6.getD k7.toNat ((0 : Int), (0 : Int), (0 : Int), ([] : List Byte), false)).1, (l_6.getD k7.toNat ((0 : Int), (0 : Int), (0 : Int), ([] : List Byte), false)).2.1, (l_6.getD k7.toNat ((0 : Int), (0 : Int), (0 : Int), ([] : List Byte), false)).2.2.1, (l_6.getD k7.toNat ((0 : Int), (0 : Int), (0 : Int), ([] : List Byte), false)).2.2.2.1, false)).getD k7.toNat ((0 : Int), (0 : Int), (0 : Int), ([] : List Byte), false)).1)), (1, fun _ => .int .i64 (((l_6.set k7.toNat ((l_6.getD k7.toNat ((0 : Int), (0 : Int), (0 : Int), ([] : List Byte), false)).1, (l_6.getD k7.toNat ((0 : Int), (0 : Int), (0 : Int), ([] : List Byte), false)).2.1, (l_6.getD k7.toNat ((0 : Int), (0 : Int), (0 : Int), ([] : List Byte), false)).2.2.1, (l_6.getD k7.toNat ((0 : Int), (0 : Int), (0 : Int), ([] : List Byte), false)).2.2.2.1, false)).getD k7.toNat ((0 : Int), (0 : Int), (0 : Int), ([] : List Byte), false)).2.1)), (1, fun _ => .int .i64 (((l_6.set k7.toNat ((l_6.getD k7.toNat ((0 : Int), (0 : Int), (0 : Int), ([] : List Byte), false)).1, (l_6.getD k7.toNat ((0 : Int), (0 : Int), (0 : Int), ([] : List Byte), false)).2.1, (l_6.getD k7.toNat ((0 : Int), (0 : Int), (0 : Int), ([] : List Byte), false)).2.2.1, (l_6.getD k7.toNat ((0 : Int), (0 : Int), (0 : Int), ([] : List Byte), false)).2.2.2.1, false)).getD k7.toNat ((0 : Int), (0 : Int), (0 : Int), ([] : List Byte), false)).2.2.1)), (1, fun _ => .slice ((b84).1) ((((l_6.set k7.toNat ((l_6.getD k7.toNat ((0 : Int), (0 : Int), (0 : Int), ([] : List Byte), false)).1, (l_6.getD k7.toNat ((0 : Int), (0 : Int), (0 : Int), ([] : List Byte), false)).2.1, (l_6.getD k7.toNat ((0 : Int), (0 : Int), (0 : Int), ([] : List Byte), false)).2.2.1, (l_6.getD k7.toNat ((0 : Int), (0 : Int), (0 : Int), ([] : List Byte), false)).2.2.2.1, false)).getD k7.toNat ((0 : Int), (0 : Int), (0 : Int), ([] : List Byte), false)).2.2.2.1).length) ((b84).2))]]) rfl FLaw23.call69 rfl (lethelaw23_same_ok (hv73.app [_, _, _, _, _, _, _, _, _, _, _, _, _]) (hv84_3.app [_, _, _, _, _, _, _, _, _, _, _, _, _]) hr85 h81) ?_
        rintro _ w87 ⟨rfl, h87⟩
        refine ⟨_, rfl, .inr ⟨rfl, ?_⟩⟩
        by_cases hc88 : x_86 = true
        ·
          replace hR := ifT hR hc88
          obtain rfl : x_86 = true := hc88
          refine Plan.pickTb rfl rfl rfl ?_
          refine Plan.move_bool rfl rfl ?_
          refine Plan.move_int rfl rfl ?_
          refine Plan.cmpP (a := (((x_66 : Nat) : Int) : Int)) (b := (230 : Int)) (p := x_66 = 230) rfl rfl rfl rfl icmp_eqN ?_
          refine Plan.pickTb rfl rfl rfl ?_
          refine Plan.assign_bool rfl rfl ?_
          refine Plan.nil ?_
          refine hK80 _ _ ?_; clear hK80
          refine W.ret (finR_ret ?_)
          have h89 := St.pickT (C := [_, _, _, _, _, _, _, _, _, _, _, _, _]) h87 [4, 5, 6, 7, 12] (by decide)
          simp only [pick, List.filterMap_cons, List.filterMap_nil, List.getElem?_cons_zero, List.getElem?_cons_succ, List.cons_append, List.nil_append] at h89
          subst r
          refine RetOk.mk (.tmp_bool rfl .nil) ?_
          obtain ⟨CF, hx1, hx2⟩ := hFr
          subst hx1
          subst hx2
          exact ⟨_, F58, rfl, h89, ho74⟩
        ·
          replace hR := ifF hR hc88
          obtain rfl : x_86 = false := Bool.eq_false_iff.2 hc88
          refine Plan.pickTb rfl rfl rfl ?_
          refine Plan.move_bool rfl rfl ?_
          refine Plan.passed rfl ?_
          refine Plan.passed rfl ?_
          refine Plan.pickFb rfl rfl rfl ?_
          refine Plan.assign_bool rfl rfl ?_
          refine Plan.nil ?_
          refine hK80 _ _ ?_; clear hK80
          refine W.ret (finR_ret ?_)
          have h90 := St.pickT (C := [_, _, _, _, _, _, _, _, _, _, _, _, _]) h87 [4, 5, 6, 7, 12] (by decide)
          simp only [pick, List.filterMap_cons, List.filterMap_nil, List.getElem?_cons_zero, List.getElem?_cons_succ, List.cons_append, List.nil_append] at h90
          subst r
          refine RetOk.mk (.tmp_bool rfl .nil) ?_
          obtain ⟨CF, hx1, hx2⟩ := hFr
          subst hx1
          subst hx2
          exact ⟨_, F58, rfl, h90, ho74⟩
      ·
        replace hR := ifF hR hc82
        refine Plan.cmpV (a := (((x_15 : Nat) : Int) : Int)) (b := (0 : Int)) (p := x_15 = 0) (v := false) rfl rfl rfl rfl icmp_eqN (decide_eq_false hc82) ?_
        refine Plan.move_bool rfl rfl ?_
        refine Plan.passed rfl ?_
        refine Plan.passed rfl ?_
        refine Plan.passed rfl ?_
        refine Plan.passed rfl ?_
        refine Plan.passed rfl ?_
        refine Plan.passed rfl ?_
        refine Plan.passed rfl ?_
        refine Plan.pickFb rfl rfl rfl ?_
        refine Plan.move_bool rfl rfl ?_
        refine Plan.passed rfl ?_
        refine Plan.passed rfl ?_
        refine Plan.pickFb rfl rfl rfl ?_
        refine Plan.assign_bool rfl rfl ?_
        refine Plan.nil ?_
        refine hK80 _ _ ?_; clear hK80
        refine W.ret (finR_ret ?_)
        have h91 := St.pickT (C := [_, _, _, _, _, _, _, _, _, _, _, _, _]) h81 [4, 5, 6, 7, 12] (by decide)
        simp only [pick, List.filterMap_cons, List.filterMap_nil, List.getElem?_cons_zero, List.getElem?_cons_succ, List.cons_append, List.nil_append] at h91
        subst r
        refine RetOk.mk (.tmp_bool rfl .nil) ?_
        obtain ⟨CF, hx1, hx2⟩ := hFr
        subst hx1
        subst hx2
        exact ⟨_, F58, rfl, h91, ho74⟩
    ·
      replace hR := ifF hR hc55
      refine W.condT (congrArg Value.bool (congrArg Bool.not (Bool.eq_false_iff.2 hc55))) ?_
      refine W.seq_k fun K92 hK92 => ?_
      refine W.regionT [(0, true), (1, true), (2, true), (3, true), (4, true), (5, false), (6, true), (7, true)] (by kernel_rfl) ?_
      refine Plan.move_int rfl rfl ?_
      by_cases hc93 : x_15 = 230
      ·
        replace hR := ifT hR hc93
        refine Plan.cmpV (a := (((x_15 : Nat) : Int) : Int)) (b := (230 : Int)) (p := x_15 = 230) (v := true) rfl rfl rfl rfl icmp_eqN (decide_eq_true hc93) ?_
        refine Plan.move_bool rfl rfl ?_
        refine Plan.loadA h27 rfl rfl (.cons 0 rfl (.cons 1 rfl (.cons 2 rfl (.cons 3 rfl .nil)))) FLaw23.agg60 ?_
        refine Plan.buildZ FLaw23.row60 FLaw23.z60 rfl ?_
        obtain ⟨x_95, hr94, hR⟩ := hR
        refine Plan.call (vs := [AG [(1, fun _ => .int .i64 x_11), (1, fun _ => .int .i64 x_12), (1, fun _ => .int .i64 x_13), (1, fun _ => .slice ay0_3_18 x_14.length cy0_3_19)], AG [(1, fun _ => VN 0), (1, fun _ => VN 0), (1, fun _ => VN 0), (1, fun _ => .slice none 0 0)]]) rfl FLaw23.call69 rfl (lethelaw23_same_ok (hv25.app [_, _, _, _, _, _, _, _, _]) (by exact (Bx.nil 0)) hr94 h27) ?_
        rintro _ w96 ⟨rfl, h96⟩
        refine ⟨_, rfl, .inr ⟨rfl, ?_⟩⟩
        refine Plan.pickTb rfl rfl rfl ?_
        refine Plan.assign_bool rfl rfl ?_
        refine Plan.nil ?_
        refine hK92 _ _ ?_; clear hK92
        refine W.ret (thenR_ret (finR_ret ?_))
        have h97 := St.pickT (C := [_, _, _, _, _, _, _, _, _]) h96 [4, 5, 6, 7, 8] (by decide)
        simp only [pick, List.filterMap_cons, List.filterMap_nil, List.getElem?_cons_zero, List.getElem?_cons_succ, List.cons_append, List.nil_append] at h97
        subst r
        refine RetOk.mk (.tmp_bool rfl .nil) ?_
        obtain ⟨CF, hx1, hx2⟩ := hFr
        subst hx1
        subst hx2
        exact ⟨_, Fl_6, rfl, h97, ho22⟩
      ·
        replace hR := ifF hR hc93
        refine Plan.cmpV (a := (((x_15 : Nat) : Int) : Int)) (b := (230 : Int)) (p := x_15 = 230) (v := false) rfl rfl rfl rfl icmp_eqN (decide_eq_false hc93) ?_
        refine Plan.move_bool rfl rfl ?_
        refine Plan.passed rfl ?_
        refine Plan.passed rfl ?_
        refine Plan.passed rfl ?_
        refine Plan.pickFb rfl rfl rfl ?_
        refine Plan.assign_bool rfl rfl ?_
        refine Plan.nil ?_
        refine hK92 _ _ ?_; clear hK92
        refine W.ret (thenR_ret (finR_ret ?_))
        have h98 := St.pickT (C := [_, _, _, _, _, _, _, _, _]) h27 [4, 5, 6, 7, 8] (by decide)
        simp only [pick, List.filterMap_cons, List.filterMap_nil, List.getElem?_cons_zero, List.getElem?_cons_succ, List.cons_append, List.nil_append] at h98
        subst r
        refine RetOk.mk (.tmp_bool rfl .nil) ?_
        obtain ⟨CF, hx1, hx2⟩ := hFr
        subst hx1
        subst hx2
        exact ⟨_, Fl_6, rfl, h98, ho22⟩

end Go.Proofs.Ytbkgblhmlenocaa
