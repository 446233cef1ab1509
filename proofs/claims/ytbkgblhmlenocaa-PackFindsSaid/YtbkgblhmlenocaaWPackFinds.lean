/-
  WALKS of the package's functions, printed by this session's own program (auto.py).
-/
import Derived.Test.YtbkgblhmlenocaaProg
import Derived.Test.YtbkgblhmlenocaaEb
import Derived.Test.YtbkgblhmlenocaaRPackFinds
import Derived.Test.YtbkgblhmlenocaaEls
import Derived.Test.YtbkgblhmlenocaaWLaw11
import Derived.Test.YtbkgblhmlenocaaWPack
namespace Go.Proofs.Ytbkgblhmlenocaa
set_option linter.unusedSimpArgs false
set_option linter.unusedVariables false
set_option linter.unusedSectionVars false
open Go Go.LW
theorem FPackFinds.isl22 : ∃ el, Try.prog.underlying 22 = some (.slice el) := ⟨25, by kernel_rfl⟩
theorem FPackFinds.sl22 : slB Try.prog 22 3 = true := by kernel_rfl
theorem FPackFinds.agg25 : aggT Try.prog 25 3 = true := by kernel_rfl
theorem FPackFinds.fld25_0 : fieldB Try.prog 25 0 0 = true := by kernel_rfl
theorem FPackFinds.sc3 : scalarT Try.prog 3 = true := by kernel_rfl
theorem FPackFinds.fld25_1 : fieldB Try.prog 25 1 1 = true := by kernel_rfl
theorem FPackFinds.sc23 : scalarT Try.prog 23 = true := by kernel_rfl
theorem FPackFinds.fld25_2 : fieldB Try.prog 25 2 2 = true := by kernel_rfl
theorem FPackFinds.sz25 : szT Try.prog 25 3 = true := by kernel_rfl
theorem FPackFinds.call15 : callB Try.prog 15 = true := by kernel_rfl
theorem FPackFinds.mixed : Try.prog.follows .mixedOrders = true := by kernel_rfl
theorem FPackFinds.call18 : callB Try.prog 18 = true := by kernel_rfl
theorem FPackFinds.call14 : callB Try.prog 14 = true := by kernel_rfl
theorem FPackFinds.call16 : callB Try.prog 16 = true := by kernel_rfl
theorem FPackFinds.call17 : callB Try.prog 17 = true := by kernel_rfl
theorem FPackFinds.bool4 : boolB Try.prog 4 = true := by kernel_rfl
theorem FPackFinds.call19 : callB Try.prog 19 = true := by kernel_rfl
theorem FPackFinds.call20 : callB Try.prog 20 = true := by kernel_rfl
theorem FPackFinds.call21 : callB Try.prog 21 = true := by kernel_rfl

set_option maxRecDepth 8000 in
set_option maxHeartbeats 1000000 in
theorem lethelaw11_PackFinds_ok {B : Nat} {w0 w : World} {L : List Rg} {l_1 : List (Int × (List Byte) × (List Byte))} {al_1 : Option Addr} {nl_1 cl_1 il_1 : Nat} (hl_1 : LV (D25.at L) L il_1 al_1 nl_1 cl_1 l_1) {rTable2 : Int} {rKey3 : List Byte} {arKey3 : Option Addr} {nrKey3 crKey3 irKey3 : Nat} (hrKey3 : Bx L irKey3 arKey3 nrKey3 crKey3 rKey3) {rValue4 : List Byte} {arValue4 : Option Addr} {nrValue4 crValue4 irValue4 : Nat} (hrValue4 : Bx L irValue4 arValue4 nrValue4 crValue4 rValue4) {sTable5 : Int} {sKey6 : List Byte} {asKey6 : Option Addr} {nsKey6 csKey6 isKey6 : Nat} (hsKey6 : Bx L isKey6 asKey6 nsKey6 csKey6 sKey6) {sValue7 : List Byte} {asValue7 : Option Addr} {nsValue7 csValue7 isValue7 : Nat} (hsValue7 : Bx L isValue7 asValue7 nsValue7 csValue7 sValue7) {r : Bool} (hR : lethelaw11_PackFinds l_1 rTable2 rKey3 rValue4 sTable5 sKey6 sValue7 r) (HST : St B w0 (L) w) :
    Calls Try.prog 3 #[.slice al_1 nl_1 cl_1, AG [(1, fun _ => .int .i64 rTable2), (1, fun _ => .slice arKey3 nrKey3 crKey3), (1, fun _ => .slice arValue4 nrValue4 crValue4)], AG [(1, fun _ => .int .i64 sTable5), (1, fun _ => .slice asKey6 nsKey6 csKey6), (1, fun _ => .slice asValue7 nsValue7 csValue7)]] w fun e w' => e = .returned (.bool r) ∧ St B w0 (L) w' := by
  refine W.enter 188 Try.func3 rfl rfl rfl ?_
  unfold lethelaw11_PackFinds at hR
  have hFr : Fr2 L L L L := Fr2.refl _ _
  have el_1 := hl_1.hl; subst el_1
  have erKey3 := hrKey3.hl; subst erKey3
  have erValue4 := hrValue4.hl; subst erValue4
  have esKey6 := hsKey6.hl; subst esKey6
  have esValue7 := hsValue7.hl; subst esValue7
  refine W.seq_k fun K8 hK8 => ?_
  refine W.regionT [(0, false), (1, false), (2, true)] (by kernel_rfl) ?_
  refine Plan.boxA HST rfl rfl PIn.nil fun b9 w9 hb9 h9 => ?_
  simp only [rngs, Nat.zero_add, Nat.reduceAdd, List.cons_append, List.nil_append] at h9
  refine Plan.boxA h9 rfl rfl PIn.nil fun b10 w10 hb10 h10 => ?_
  simp only [rngs, Nat.zero_add, Nat.reduceAdd, List.cons_append, List.nil_append] at h10
  refine Plan.assign_bool rfl rfl ?_
  refine Plan.nil ?_
  refine hK8 _ _ ?_; clear hK8
  refine W.seq_k fun K11 hK11 => ?_
  refine W.regionT [(0, true), (1, false), (2, true)] (by kernel_rfl) ?_
  refine Plan.move_slice rfl rfl ?_
  obtain ⟨x_13, hr12, hR⟩ := hR
  refine Plan.call (vs := [.slice al_1 l_1.length cl_1]) rfl FPackFinds.call14 rfl (lethelaw11_sorted_ok (LP := L) (by exact fun r hr => List.mem_append_right [_, _, _, _, _, _] ((fun _ h => h) r hr)) (by exact (hl_1.app [_, _, _, _, _, _])) hr12 h10) ?_
  rintro _ w19 ⟨C19, ay0_14, py0_15, ny0_16, cy0_17, Fy0_18, rfl, h19, hf19_0⟩
  replace h19 := St.pool (N := [_]) (R := [_, _, _, _, _, _]) h19
  obtain ⟨L, hL20⟩ : ∃ X, X = C19 ++ L := ⟨_, rfl⟩
  have h20 := St.re (N := [_, _, _, _, _, _, _]) hL20 h19
  simp only [List.cons_append, List.nil_append] at h20
  replace hFr : Fr2 _ _ L L := hFr.step hL20 hL20
  obtain ⟨ix21, hv21⟩ : ∃ i, LV (D25.at L) L i al_1 l_1.length cl_1 l_1 := ⟨_, by rw [hL20]; exact (LV.grow D25_lifts (fun r hr => List.mem_append_right _ hr) hl_1).app _⟩
  obtain ⟨ix22, hv22⟩ : ∃ i, Bx L i arKey3 rKey3.length crKey3 rKey3 := ⟨_, by rw [hL20]; exact hrKey3.app _⟩
  obtain ⟨ix23, hv23⟩ : ∃ i, Bx L i arValue4 rValue4.length crValue4 rValue4 := ⟨_, by rw [hL20]; exact hrValue4.app _⟩
  obtain ⟨ix24, hv24⟩ : ∃ i, Bx L i asKey6 sKey6.length csKey6 sKey6 := ⟨_, by rw [hL20]; exact hsKey6.app _⟩
  obtain ⟨ix25, hv25⟩ : ∃ i, Bx L i asValue7 sValue7.length csValue7 sValue7 := ⟨_, by rw [hL20]; exact hsValue7.app _⟩
  obtain rfl := hf19_0.hl
  have hd19_0 : LO (D25.at L) [] ay0_14 py0_15 (x_13).length cy0_17 Fy0_18 x_13 := LO.grow D25_lifts (fun r hr => (by rw [hL20]; exact hr)) hf19_0
  refine ⟨_, rfl, .inl ⟨PIn.keep PIn.nil h20, ?_⟩⟩
  refine Plan.assign_slice rfl rfl ?_
  refine Plan.nil ?_
  refine hK11 _ _ ?_; clear hK11
  refine W.seq_k fun K26 hK26 => ?_
  refine W.regionD FPackFinds.mixed [(0, true), (2, true), (1, false), (3, false), (4, false), (5, false)] (by kernel_rfl) ?_
  have h27 := h20.drew
  refine Plan.loadA h27 rfl rfl (.cons 4 rfl (.cons 5 rfl (.cons 6 rfl .nil))) FPackFinds.agg25 ?_
  refine Plan.loadA h27 rfl rfl (.cons 1 rfl (.cons 2 rfl (.cons 3 rfl .nil))) FPackFinds.agg25 ?_
  obtain ⟨x_29, x_30, x_31, hr28, hR⟩ := hR
  refine Plan.call (vs := [AG [(1, fun _ => .int .i64 rTable2), (1, fun _ => .slice arKey3 rKey3.length crKey3), (1, fun _ => .slice arValue4 rValue4.length crValue4)]]) rfl FPackFinds.call15 rfl (lethelaw11_right_ok (LP := L) (by exact fun r hr => List.mem_append_right [_, _, _, _, _, _, _] ((fun _ h => h) r hr)) (by exact ⟨_, hv22⟩) (by exact ⟨_, hv23⟩) hr28 h27) ?_
  rintro _ w38 ⟨C38, iy0_1_32, ay0_1_33, cy0_1_34, iy0_2_35, ay0_2_36, cy0_2_37, rfl, h38, hf38_0, hf38_1⟩
  try dsimp only at hf38_0 hf38_1
  replace h38 := St.pool (N := []) (R := [_, _, _, _, _, _, _]) h38
  obtain ⟨L, hL39⟩ : ∃ X, X = C38 ++ L := ⟨_, rfl⟩
  have h39 := St.re (N := [_, _, _, _, _, _, _]) hL39 h38
  simp only [List.cons_append, List.nil_append] at h39
  replace hFr : Fr2 _ _ L L := hFr.step hL39 hL39
  obtain ⟨ix40, hv40⟩ : ∃ i, LV (D25.at L) L i al_1 l_1.length cl_1 l_1 := ⟨_, by rw [hL39]; exact (LV.grow D25_lifts (fun r hr => List.mem_append_right _ hr) hv21).app _⟩
  obtain ⟨ix41, hv41⟩ : ∃ i, Bx L i arKey3 rKey3.length crKey3 rKey3 := ⟨_, by rw [hL39]; exact hv22.app _⟩
  obtain ⟨ix42, hv42⟩ : ∃ i, Bx L i arValue4 rValue4.length crValue4 rValue4 := ⟨_, by rw [hL39]; exact hv23.app _⟩
  obtain ⟨ix43, hv43⟩ : ∃ i, Bx L i asKey6 sKey6.length csKey6 sKey6 := ⟨_, by rw [hL39]; exact hv24.app _⟩
  obtain ⟨ix44, hv44⟩ : ∃ i, Bx L i asValue7 sValue7.length csValue7 sValue7 := ⟨_, by rw [hL39]; exact hv25.app _⟩
  have ho45 : LO (D25.at L) [] ay0_14 py0_15 (x_13).length cy0_17 Fy0_18 x_13 := by rw [hL39]; exact LO.grow D25_lifts (fun r hr => List.mem_append_right _ hr) hd19_0
  have hp46 : ∃ i, Bx L i ay0_1_33 x_30.length cy0_1_34 x_30 := by rw [hL39]; exact ⟨_, hf38_0⟩
  obtain ⟨ix46, hv46⟩ := hp46
  have hp47 : ∃ i, Bx L i ay0_2_36 x_31.length cy0_2_37 x_31 := by rw [hL39]; exact ⟨_, hf38_1⟩
  obtain ⟨ix47, hv47⟩ := hp47
  refine ⟨_, rfl, .inl ⟨PIn.keep (PIn.parts (.cons 1 rfl (.cons 2 rfl (.cons 3 rfl .nil))) (PIn.parts (.cons 4 rfl (.cons 5 rfl (.cons 6 rfl .nil))) PIn.nil)) h39, ?_⟩⟩
  obtain ⟨x_49, x_50, x_51, hr48, hR⟩ := hR
  refine Plan.call (vs := [AG [(1, fun _ => .int .i64 sTable5), (1, fun _ => .slice asKey6 sKey6.length csKey6), (1, fun _ => .slice asValue7 sValue7.length csValue7)]]) rfl FPackFinds.call15 rfl (lethelaw11_right_ok (LP := L) (by exact fun r hr => List.mem_append_right [_, _, _, _, _, _, _] ((fun _ h => h) r hr)) (by exact ⟨_, hv43⟩) (by exact ⟨_, hv44⟩) hr48 h39) ?_
  rintro _ w58 ⟨C58, iy0_1_52, ay0_1_53, cy0_1_54, iy0_2_55, ay0_2_56, cy0_2_57, rfl, h58, hf58_0, hf58_1⟩
  try dsimp only at hf58_0 hf58_1
  replace h58 := St.pool (N := []) (R := [_, _, _, _, _, _, _]) h58
  obtain ⟨L, hL59⟩ : ∃ X, X = C58 ++ L := ⟨_, rfl⟩
  have h59 := St.re (N := [_, _, _, _, _, _, _]) hL59 h58
  simp only [List.cons_append, List.nil_append] at h59
  replace hFr : Fr2 _ _ L L := hFr.step hL59 hL59
  obtain ⟨ix60, hv60⟩ : ∃ i, LV (D25.at L) L i al_1 l_1.length cl_1 l_1 := ⟨_, by rw [hL59]; exact (LV.grow D25_lifts (fun r hr => List.mem_append_right _ hr) hv40).app _⟩
  obtain ⟨ix61, hv61⟩ : ∃ i, Bx L i arKey3 rKey3.length crKey3 rKey3 := ⟨_, by rw [hL59]; exact hv41.app _⟩
  obtain ⟨ix62, hv62⟩ : ∃ i, Bx L i arValue4 rValue4.length crValue4 rValue4 := ⟨_, by rw [hL59]; exact hv42.app _⟩
  obtain ⟨ix63, hv63⟩ : ∃ i, Bx L i asKey6 sKey6.length csKey6 sKey6 := ⟨_, by rw [hL59]; exact hv43.app _⟩
  obtain ⟨ix64, hv64⟩ : ∃ i, Bx L i asValue7 sValue7.length csValue7 sValue7 := ⟨_, by rw [hL59]; exact hv44.app _⟩
  obtain ⟨ix65, hv65⟩ : ∃ i, Bx L i ay0_1_33 x_30.length cy0_1_34 x_30 := ⟨_, by rw [hL59]; exact hv46.app _⟩
  obtain ⟨ix66, hv66⟩ : ∃ i, Bx L i ay0_2_36 x_31.length cy0_2_37 x_31 := ⟨_, by rw [hL59]; exact hv47.app _⟩
  have ho67 : LO (D25.at L) [] ay0_14 py0_15 (x_13).length cy0_17 Fy0_18 x_13 := by rw [hL59]; exact LO.grow D25_lifts (fun r hr => List.mem_append_right _ hr) ho45
  have hp68 : ∃ i, Bx L i ay0_1_53 x_50.length cy0_1_54 x_50 := by rw [hL59]; exact ⟨_, hf58_0⟩
  obtain ⟨ix68, hv68⟩ := hp68
  have hp69 : ∃ i, Bx L i ay0_2_56 x_51.length cy0_2_57 x_51 := by rw [hL59]; exact ⟨_, hf58_1⟩
  obtain ⟨ix69, hv69⟩ := hp69
  refine ⟨_, rfl, .inl ⟨PIn.keep (PIn.parts (.cons 1 rfl (.cons 2 rfl (.cons 3 rfl .nil))) (PIn.parts (.cons 4 rfl (.cons 5 rfl (.cons 6 rfl .nil))) PIn.nil)) h59, ?_⟩⟩
  refine Plan.storeP (ps := [(1, fun _ => .int .i64 x_29), (1, fun _ => .slice ay0_1_33 x_30.length cy0_1_34), (1, fun _ => .slice ay0_2_36 x_31.length cy0_2_37)]) h59 rfl rfl rfl (.cons 4 rfl (.cons 5 rfl (.cons 6 rfl .nil))) ⟨fun _ _ => rfl, fun _ _ => rfl, fun _ _ => rfl, trivial⟩ FPackFinds.sz25 (EffO.mix _ (Filt.keep rfl (Filt.drop rfl Filt.nil)) (PIn.parts (.cons 1 rfl (.cons 2 rfl (.cons 3 rfl .nil))) PIn.nil)) fun w70 h70 => ?_
  simp only [List.cons_append, List.nil_append, List.set_cons_zero, List.set_cons_succ] at h70
  refine Plan.storeP (ps := [(1, fun _ => .int .i64 x_49), (1, fun _ => .slice ay0_1_53 x_50.length cy0_1_54), (1, fun _ => .slice ay0_2_56 x_51.length cy0_2_57)]) h70 rfl rfl rfl (.cons 1 rfl (.cons 2 rfl (.cons 3 rfl .nil))) ⟨fun _ _ => rfl, fun _ _ => rfl, fun _ _ => rfl, trivial⟩ FPackFinds.sz25 (EffO.wait rfl) fun w71 h71 => ?_
  simp only [List.cons_append, List.nil_append, List.set_cons_zero, List.set_cons_succ] at h71
  refine Plan.nil ?_
  refine hK26 _ _ ?_; clear hK26
  refine W.seq_k fun K72 hK72 => ?_
  refine W.regionT [(0, true), (1, true), (2, false), (3, true)] (by kernel_rfl) ?_
  refine Plan.loadA h71 rfl rfl (.cons 4 rfl (.cons 5 rfl (.cons 6 rfl .nil))) FPackFinds.agg25 ?_
  refine Plan.loadA h71 rfl rfl (.cons 1 rfl (.cons 2 rfl (.cons 3 rfl .nil))) FPackFinds.agg25 ?_
  obtain ⟨x_74, hr73, hR⟩ := hR
  refine Plan.call (vs := [AG [(1, fun _ => .int .i64 x_29), (1, fun _ => .slice ay0_1_33 x_30.length cy0_1_34), (1, fun _ => .slice ay0_2_36 x_31.length cy0_2_37)], AG [(1, fun _ => .int .i64 x_49), (1, fun _ => .slice ay0_1_53 x_50.length cy0_1_54), (1, fun _ => .slice ay0_2_56 x_51.length cy0_2_57)]]) rfl FPackFinds.call16 rfl (pack_Compare_ok (hv65.app [_, _, _, _, _, _, _]) (hv66.app [_, _, _, _, _, _, _]) (hv68.app [_, _, _, _, _, _, _]) (hv69.app [_, _, _, _, _, _, _]) hr73 h71) ?_
  rintro _ w75 ⟨rfl, h75⟩
  refine ⟨_, rfl, .inr ⟨rfl, ?_⟩⟩
  refine Plan.assign_int rfl rfl ?_
  refine Plan.nil ?_
  refine hK72 _ _ ?_; clear hK72
  refine W.seq_k fun K76 hK76 => ?_
  refine W.seq_k fun K140 hK140 => ?_
  obtain ⟨t166, hX167, hR0167⟩ := hR
  refine W.cutN (fun e w => ∃ y_t166 : Bool, (t166 = y_t166) ∧ EnvHas e [(4, .pointer (some ⟨b9, 0, none⟩)), (7, .slice ay0_14 x_13.length cy0_17), (66, .bool y_t166)] ∧ St B w0 (⟨py0_15, 0, cy0_17 * 3, Fy0_18, true⟩ :: ⟨some b9, 0, 1, fun _ => .int .i64 x_29, true⟩ :: ⟨some b9, 1, 1, fun _ => .slice ay0_1_33 x_30.length cy0_1_34, true⟩ :: ⟨some b9, 2, 1, fun _ => .slice ay0_2_36 x_31.length cy0_2_37, true⟩ :: L) w) ?_ ?_
  ·
    replace hR := hX167
    refine W.regionT [(0, true), (1, true), (2, true), (3, false), (4, true), (5, true), (6, true), (7, true), (8, true), (9, true), (10, true), (11, true), (12, true), (13, true), (14, true), (15, true), (16, true), (17, true), (18, true), (19, false), (20, true), (21, true), (22, true), (23, true), (24, true), (25, true), (26, true), (27, true), (28, false), (29, true), (30, true), (31, true), (32, true), (33, true), (34, false), (35, true), (36, true)] (by kernel_rfl) ?_
    refine Plan.move_int rfl rfl ?_
    refine Plan.loadA h75 rfl rfl (.cons 1 rfl (.cons 2 rfl (.cons 3 rfl .nil))) FPackFinds.agg25 ?_
    refine Plan.loadA h75 rfl rfl (.cons 4 rfl (.cons 5 rfl (.cons 6 rfl .nil))) FPackFinds.agg25 ?_
    obtain ⟨x_169, hr168, hR⟩ := hR
    refine Plan.call (vs := [AG [(1, fun _ => .int .i64 x_49), (1, fun _ => .slice ay0_1_53 x_50.length cy0_1_54), (1, fun _ => .slice ay0_2_56 x_51.length cy0_2_57)], AG [(1, fun _ => .int .i64 x_29), (1, fun _ => .slice ay0_1_33 x_30.length cy0_1_34), (1, fun _ => .slice ay0_2_36 x_31.length cy0_2_37)]]) rfl FPackFinds.call16 rfl (pack_Compare_ok (hv68.app [_, _, _, _, _, _, _]) (hv69.app [_, _, _, _, _, _, _]) (hv65.app [_, _, _, _, _, _, _]) (hv66.app [_, _, _, _, _, _, _]) hr168 h75) ?_
    rintro _ w170 ⟨rfl, h170⟩
    refine ⟨_, rfl, .inr ⟨rfl, ?_⟩⟩
    obtain ⟨hc171, hR⟩ := hR
    refine Plan.negI rfl rfl (by omega) ?_
    by_cases hc172 : x_74 ≠ (-x_169)
    ·
      replace hR := ifT hR hc172
      refine Plan.cmpV (a := (x_74 : Int)) (b := ((-x_169) : Int)) (p := x_74 ≠ (-x_169)) (v := true) rfl rfl rfl rfl icmp_ne (decide_eq_true hc172) ?_
      refine Plan.move_bool rfl rfl ?_
      refine Plan.passed rfl ?_
      refine Plan.passed rfl ?_
      refine Plan.passed rfl ?_
      refine Plan.passed rfl ?_
      refine Plan.passed rfl ?_
      refine Plan.passed rfl ?_
      refine Plan.passed rfl ?_
      refine Plan.passed rfl ?_
      refine Plan.passed rfl ?_
      refine Plan.passed rfl ?_
      refine Plan.passed rfl ?_
      refine Plan.passed rfl ?_
      refine Plan.passed rfl ?_
      refine Plan.passed rfl ?_
      refine Plan.passed rfl ?_
      refine Plan.pickTb rfl rfl rfl ?_
      refine Plan.move_bool rfl rfl ?_
      refine Plan.passed rfl ?_
      refine Plan.passed rfl ?_
      refine Plan.passed rfl ?_
      refine Plan.passed rfl ?_
      refine Plan.passed rfl ?_
      refine Plan.passed rfl ?_
      refine Plan.pickTb rfl rfl rfl ?_
      refine Plan.move_bool rfl rfl ?_
      refine Plan.passed rfl ?_
      refine Plan.passed rfl ?_
      refine Plan.passed rfl ?_
      refine Plan.passed rfl ?_
      refine Plan.pickTb rfl rfl rfl ?_
      refine Plan.nil ?_
      have h173 := St.pickT (C := [_, _, _, _, _, _, _]) h170 [0, 4, 5, 6] (by decide)
      simp only [pick, List.filterMap_cons, List.filterMap_nil, List.getElem?_cons_zero, List.getElem?_cons_succ, List.cons_append, List.nil_append] at h173
      exact ⟨true, hR, (EnvHas.cons rfl (EnvHas.cons rfl (EnvHas.cons rfl EnvHas.nil))), h173⟩
    ·
      replace hR := ifF hR hc172
      refine Plan.cmpV (a := (x_74 : Int)) (b := ((-x_169) : Int)) (p := x_74 ≠ (-x_169)) (v := false) rfl rfl rfl rfl icmp_ne (decide_eq_false hc172) ?_
      refine Plan.move_bool rfl rfl ?_
      refine Plan.move_int rfl rfl ?_
      refine Plan.cmpP (a := (x_74 : Int)) (b := (0 : Int)) (p := x_74 = 0) rfl rfl rfl rfl icmp_eq ?_
      refine Plan.fieldAddr0 FPackFinds.fld25_0 rfl rfl ?_
      refine Plan.load0 h170 4 rfl rfl rfl (by omega) FPackFinds.sc3 ?_
      refine Plan.fieldAddr0 FPackFinds.fld25_0 rfl rfl ?_
      refine Plan.load0 h170 1 rfl rfl rfl (by omega) FPackFinds.sc3 ?_
      by_cases hc174 : x_29 = x_49
      ·
        replace hR := ifT hR hc174
        refine Plan.cmpV (a := (x_29 : Int)) (b := (x_49 : Int)) (p := x_29 = x_49) (v := true) rfl rfl rfl rfl icmp_eq (decide_eq_true hc174) ?_
        refine Plan.move_bool rfl rfl ?_
        refine Plan.fieldAddr 1 FPackFinds.fld25_1 rfl rfl ?_
        refine Plan.load0 h170 5 rfl rfl rfl (by omega) FPackFinds.sc23 ?_
        refine Plan.fieldAddr 1 FPackFinds.fld25_1 rfl rfl ?_
        refine Plan.load0 h170 2 rfl rfl rfl (by omega) FPackFinds.sc23 ?_
        obtain ⟨x_176, hr175, hR⟩ := hR
        refine Plan.call (vs := [.slice ay0_1_33 x_30.length cy0_1_34, .slice ay0_1_53 x_50.length cy0_1_54]) rfl FPackFinds.call17 rfl (lethelaw11_Eq_ok (hv65.app [_, _, _, _, _, _, _]) (hv68.app [_, _, _, _, _, _, _]) hr175 h170) ?_
        rintro _ w177 ⟨rfl, h177⟩
        refine ⟨_, rfl, .inl ⟨PIn.keep (PIn.cons 2 rfl (PIn.cons 5 rfl (PIn.cons 1 rfl (PIn.cons 4 rfl PIn.nil)))) h177, ?_⟩⟩
        refine Plan.pickTb rfl rfl rfl ?_
        by_cases hc178 : ((decide (x_74 = 0)) != x_176) = true
        ·
          replace hR := ifT hR hc178
          refine Plan.neBoolV (v := true) FPackFinds.bool4 rfl rfl rfl hc178 ?_
          refine Plan.pickFb rfl rfl rfl ?_
          refine Plan.move_bool rfl rfl ?_
          refine Plan.passed rfl ?_
          refine Plan.passed rfl ?_
          refine Plan.passed rfl ?_
          refine Plan.passed rfl ?_
          refine Plan.passed rfl ?_
          refine Plan.passed rfl ?_
          refine Plan.pickTb rfl rfl rfl ?_
          refine Plan.move_bool rfl rfl ?_
          refine Plan.passed rfl ?_
          refine Plan.passed rfl ?_
          refine Plan.passed rfl ?_
          refine Plan.passed rfl ?_
          refine Plan.pickTb rfl rfl rfl ?_
          refine Plan.nil ?_
          have h179 := St.pickT (C := [_, _, _, _, _, _, _]) h177 [0, 4, 5, 6] (by decide)
          simp only [pick, List.filterMap_cons, List.filterMap_nil, List.getElem?_cons_zero, List.getElem?_cons_succ, List.cons_append, List.nil_append] at h179
          exact ⟨true, hR, (EnvHas.cons rfl (EnvHas.cons rfl (EnvHas.cons rfl EnvHas.nil))), h179⟩
        ·
          replace hR := ifF hR hc178
          refine Plan.neBoolV (v := false) FPackFinds.bool4 rfl rfl rfl (Bool.eq_false_iff.2 hc178) ?_
          refine Plan.pickFb rfl rfl rfl ?_
          refine Plan.move_bool rfl rfl ?_
          refine Plan.move_int rfl rfl ?_
          refine Plan.cmpP (a := (x_74 : Int)) (b := (0 : Int)) (p := x_74 < 0) rfl rfl rfl rfl icmp_lt ?_
          refine Plan.loadA h177 rfl rfl (.cons 4 rfl (.cons 5 rfl (.cons 6 rfl .nil))) FPackFinds.agg25 ?_
          refine Plan.loadA h177 rfl rfl (.cons 1 rfl (.cons 2 rfl (.cons 3 rfl .nil))) FPackFinds.agg25 ?_
          obtain ⟨x_181, hr180, hR⟩ := hR
          refine Plan.call (vs := [AG [(1, fun _ => .int .i64 x_29), (1, fun _ => .slice ay0_1_33 x_30.length cy0_1_34), (1, fun _ => .slice ay0_2_36 x_31.length cy0_2_37)], AG [(1, fun _ => .int .i64 x_49), (1, fun _ => .slice ay0_1_53 x_50.length cy0_1_54), (1, fun _ => .slice ay0_2_56 x_51.length cy0_2_57)]]) rfl FPackFinds.call18 rfl (lethelaw11_ahead_ok (hv65.app [_, _, _, _, _, _, _]) (hv66.app [_, _, _, _, _, _, _]) (hv68.app [_, _, _, _, _, _, _]) (hv69.app [_, _, _, _, _, _, _]) hr180 h177) ?_
          rintro _ w182 ⟨rfl, h182⟩
          refine ⟨_, rfl, .inl ⟨PIn.keep (PIn.parts (.cons 1 rfl (.cons 2 rfl (.cons 3 rfl .nil))) (PIn.parts (.cons 4 rfl (.cons 5 rfl (.cons 6 rfl .nil))) (PIn.cons 2 rfl (PIn.cons 5 rfl (PIn.cons 1 rfl (PIn.cons 4 rfl PIn.nil)))))) h182, ?_⟩⟩
          by_cases hc183 : ((decide (x_74 < 0)) != x_181) = true
          ·
            replace hR := ifT hR hc183
            refine Plan.neBoolV (v := true) FPackFinds.bool4 rfl rfl rfl hc183 ?_
            refine Plan.pickFb rfl rfl rfl ?_
            refine Plan.move_bool rfl rfl ?_
            refine Plan.passed rfl ?_
            refine Plan.passed rfl ?_
            refine Plan.passed rfl ?_
            refine Plan.passed rfl ?_
            refine Plan.pickTb rfl rfl rfl ?_
            refine Plan.nil ?_
            have h184 := St.pickT (C := [_, _, _, _, _, _, _]) h182 [0, 4, 5, 6] (by decide)
            simp only [pick, List.filterMap_cons, List.filterMap_nil, List.getElem?_cons_zero, List.getElem?_cons_succ, List.cons_append, List.nil_append] at h184
            exact ⟨true, hR, (EnvHas.cons rfl (EnvHas.cons rfl (EnvHas.cons rfl EnvHas.nil))), h184⟩
          ·
            replace hR := ifF hR hc183
            refine Plan.neBoolV (v := false) FPackFinds.bool4 rfl rfl rfl (Bool.eq_false_iff.2 hc183) ?_
            refine Plan.pickFb rfl rfl rfl ?_
            refine Plan.move_bool rfl rfl ?_
            refine Plan.loadA h182 rfl rfl (.cons 4 rfl (.cons 5 rfl (.cons 6 rfl .nil))) FPackFinds.agg25 ?_
            refine Plan.loadA h182 rfl rfl (.cons 4 rfl (.cons 5 rfl (.cons 6 rfl .nil))) FPackFinds.agg25 ?_
            obtain ⟨x_186, hr185, hR⟩ := hR
            refine Plan.call (vs := [AG [(1, fun _ => .int .i64 x_29), (1, fun _ => .slice ay0_1_33 x_30.length cy0_1_34), (1, fun _ => .slice ay0_2_36 x_31.length cy0_2_37)], AG [(1, fun _ => .int .i64 x_29), (1, fun _ => .slice ay0_1_33 x_30.length cy0_1_34), (1, fun _ => .slice ay0_2_36 x_31.length cy0_2_37)]]) rfl FPackFinds.call16 rfl (pack_Compare_ok (hv65.app [_, _, _, _, _, _, _]) (hv66.app [_, _, _, _, _, _, _]) (hv65.app [_, _, _, _, _, _, _]) (hv66.app [_, _, _, _, _, _, _]) hr185 h182) ?_
            rintro _ w187 ⟨rfl, h187⟩
            refine ⟨_, rfl, .inl ⟨PIn.keep (PIn.parts (.cons 4 rfl (.cons 5 rfl (.cons 6 rfl .nil))) (PIn.parts (.cons 4 rfl (.cons 5 rfl (.cons 6 rfl .nil))) (PIn.parts (.cons 1 rfl (.cons 2 rfl (.cons 3 rfl .nil))) (PIn.parts (.cons 4 rfl (.cons 5 rfl (.cons 6 rfl .nil))) (PIn.cons 2 rfl (PIn.cons 5 rfl (PIn.cons 1 rfl (PIn.cons 4 rfl PIn.nil)))))))) h187, ?_⟩⟩
            refine Plan.cmpP (a := (x_186 : Int)) (b := (0 : Int)) (p := x_186 ≠ 0) rfl rfl rfl rfl icmp_ne ?_
            refine Plan.pickFb rfl rfl rfl ?_
            refine Plan.nil ?_
            have h188 := St.pickT (C := [_, _, _, _, _, _, _]) h187 [0, 4, 5, 6] (by decide)
            simp only [pick, List.filterMap_cons, List.filterMap_nil, List.getElem?_cons_zero, List.getElem?_cons_succ, List.cons_append, List.nil_append] at h188
            exact ⟨(decide (x_186 ≠ 0)), hR, (EnvHas.cons rfl (EnvHas.cons rfl (EnvHas.cons rfl EnvHas.nil))), h188⟩
      ·
        replace hR := ifF hR hc174
        refine Plan.cmpV (a := (x_29 : Int)) (b := (x_49 : Int)) (p := x_29 = x_49) (v := false) rfl rfl rfl rfl icmp_eq (decide_eq_false hc174) ?_
        refine Plan.move_bool rfl rfl ?_
        refine Plan.passed rfl ?_
        refine Plan.passed rfl ?_
        refine Plan.passed rfl ?_
        refine Plan.passed rfl ?_
        refine Plan.passed rfl ?_
        refine Plan.pickFb rfl rfl rfl ?_
        by_cases hc189 : ((decide (x_74 = 0)) != false) = true
        ·
          replace hR := ifT hR hc189
          refine Plan.neBoolV (v := true) FPackFinds.bool4 rfl rfl rfl hc189 ?_
          refine Plan.pickFb rfl rfl rfl ?_
          refine Plan.move_bool rfl rfl ?_
          refine Plan.passed rfl ?_
          refine Plan.passed rfl ?_
          refine Plan.passed rfl ?_
          refine Plan.passed rfl ?_
          refine Plan.passed rfl ?_
          refine Plan.passed rfl ?_
          refine Plan.pickTb rfl rfl rfl ?_
          refine Plan.move_bool rfl rfl ?_
          refine Plan.passed rfl ?_
          refine Plan.passed rfl ?_
          refine Plan.passed rfl ?_
          refine Plan.passed rfl ?_
          refine Plan.pickTb rfl rfl rfl ?_
          refine Plan.nil ?_
          have h190 := St.pickT (C := [_, _, _, _, _, _, _]) h170 [0, 4, 5, 6] (by decide)
          simp only [pick, List.filterMap_cons, List.filterMap_nil, List.getElem?_cons_zero, List.getElem?_cons_succ, List.cons_append, List.nil_append] at h190
          exact ⟨true, hR, (EnvHas.cons rfl (EnvHas.cons rfl (EnvHas.cons rfl EnvHas.nil))), h190⟩
        ·
          replace hR := ifF hR hc189
          refine Plan.neBoolV (v := false) FPackFinds.bool4 rfl rfl rfl (Bool.eq_false_iff.2 hc189) ?_
          refine Plan.pickFb rfl rfl rfl ?_
          refine Plan.move_bool rfl rfl ?_
          refine Plan.move_int rfl rfl ?_
          refine Plan.cmpP (a := (x_74 : Int)) (b := (0 : Int)) (p := x_74 < 0) rfl rfl rfl rfl icmp_lt ?_
          refine Plan.loadA h170 rfl rfl (.cons 4 rfl (.cons 5 rfl (.cons 6 rfl .nil))) FPackFinds.agg25 ?_
          refine Plan.loadA h170 rfl rfl (.cons 1 rfl (.cons 2 rfl (.cons 3 rfl .nil))) FPackFinds.agg25 ?_
          obtain ⟨x_192, hr191, hR⟩ := hR
          refine Plan.call (vs := [AG [(1, fun _ => .int .i64 x_29), (1, fun _ => .slice ay0_1_33 x_30.length cy0_1_34), (1, fun _ => .slice ay0_2_36 x_31.length cy0_2_37)], AG [(1, fun _ => .int .i64 x_49), (1, fun _ => .slice ay0_1_53 x_50.length cy0_1_54), (1, fun _ => .slice ay0_2_56 x_51.length cy0_2_57)]]) rfl FPackFinds.call18 rfl (lethelaw11_ahead_ok (hv65.app [_, _, _, _, _, _, _]) (hv66.app [_, _, _, _, _, _, _]) (hv68.app [_, _, _, _, _, _, _]) (hv69.app [_, _, _, _, _, _, _]) hr191 h170) ?_
          rintro _ w193 ⟨rfl, h193⟩
          refine ⟨_, rfl, .inl ⟨PIn.keep (PIn.parts (.cons 1 rfl (.cons 2 rfl (.cons 3 rfl .nil))) (PIn.parts (.cons 4 rfl (.cons 5 rfl (.cons 6 rfl .nil))) (PIn.cons 1 rfl (PIn.cons 4 rfl PIn.nil)))) h193, ?_⟩⟩
          by_cases hc194 : ((decide (x_74 < 0)) != x_192) = true
          ·
            replace hR := ifT hR hc194
            refine Plan.neBoolV (v := true) FPackFinds.bool4 rfl rfl rfl hc194 ?_
            refine Plan.pickFb rfl rfl rfl ?_
            refine Plan.move_bool rfl rfl ?_
            refine Plan.passed rfl ?_
            refine Plan.passed rfl ?_
            refine Plan.passed rfl ?_
            refine Plan.passed rfl ?_
            refine Plan.pickTb rfl rfl rfl ?_
            refine Plan.nil ?_
            have h195 := St.pickT (C := [_, _, _, _, _, _, _]) h193 [0, 4, 5, 6] (by decide)
            simp only [pick, List.filterMap_cons, List.filterMap_nil, List.getElem?_cons_zero, List.getElem?_cons_succ, List.cons_append, List.nil_append] at h195
            exact ⟨true, hR, (EnvHas.cons rfl (EnvHas.cons rfl (EnvHas.cons rfl EnvHas.nil))), h195⟩
          ·
            replace hR := ifF hR hc194
            refine Plan.neBoolV (v := false) FPackFinds.bool4 rfl rfl rfl (Bool.eq_false_iff.2 hc194) ?_
            refine Plan.pickFb rfl rfl rfl ?_
            refine Plan.move_bool rfl rfl ?_
            refine Plan.loadA h193 rfl rfl (.cons 4 rfl (.cons 5 rfl (.cons 6 rfl .nil))) FPackFinds.agg25 ?_
            refine Plan.loadA h193 rfl rfl (.cons 4 rfl (.cons 5 rfl (.cons 6 rfl .nil))) FPackFinds.agg25 ?_
            obtain ⟨x_197, hr196, hR⟩ := hR
            refine Plan.call (vs := [AG [(1, fun _ => .int .i64 x_29), (1, fun _ => .slice ay0_1_33 x_30.length cy0_1_34), (1, fun _ => .slice ay0_2_36 x_31.length cy0_2_37)], AG [(1, fun _ => .int .i64 x_29), (1, fun _ => .slice ay0_1_33 x_30.length cy0_1_34), (1, fun _ => .slice ay0_2_36 x_31.length cy0_2_37)]]) rfl FPackFinds.call16 rfl (pack_Compare_ok (hv65.app [_, _, _, _, _, _, _]) (hv66.app [_, _, _, _, _, _, _]) (hv65.app [_, _, _, _, _, _, _]) (hv66.app [_, _, _, _, _, _, _]) hr196 h193) ?_
            rintro _ w198 ⟨rfl, h198⟩
            refine ⟨_, rfl, .inl ⟨PIn.keep (PIn.parts (.cons 4 rfl (.cons 5 rfl (.cons 6 rfl .nil))) (PIn.parts (.cons 4 rfl (.cons 5 rfl (.cons 6 rfl .nil))) (PIn.parts (.cons 1 rfl (.cons 2 rfl (.cons 3 rfl .nil))) (PIn.parts (.cons 4 rfl (.cons 5 rfl (.cons 6 rfl .nil))) (PIn.cons 1 rfl (PIn.cons 4 rfl PIn.nil)))))) h198, ?_⟩⟩
            refine Plan.cmpP (a := (x_197 : Int)) (b := (0 : Int)) (p := x_197 ≠ 0) rfl rfl rfl rfl icmp_ne ?_
            refine Plan.pickFb rfl rfl rfl ?_
            refine Plan.nil ?_
            have h199 := St.pickT (C := [_, _, _, _, _, _, _]) h198 [0, 4, 5, 6] (by decide)
            simp only [pick, List.filterMap_cons, List.filterMap_nil, List.getElem?_cons_zero, List.getElem?_cons_succ, List.cons_append, List.nil_append] at h199
            exact ⟨(decide (x_197 ≠ 0)), hR, (EnvHas.cons rfl (EnvHas.cons rfl (EnvHas.cons rfl EnvHas.nil))), h199⟩
  ·
    rintro ev200 wl200 ⟨y_t166, hy200_0, he200, h200⟩
    subst hy200_0
    obtain ⟨ev200, rfl⟩ := he200.open
    replace hR := hR0167
    refine hK140 _ _ ?_; clear hK140
    by_cases hc201 : t166 = true
    ·
      replace hR := ifT hR hc201
      refine W.condT (congrArg Value.bool hc201) ?_
      refine W.seq_k fun K202 hK202 => ?_
      refine W.regionT [(0, true)] (by kernel_rfl) ?_
      refine Plan.assign_bool rfl rfl ?_
      refine Plan.nil ?_
      refine hK202 _ _ ?_; clear hK202
      refine W.ret (thenR_ret (finR_ret ?_))
      have h203 := St.pickT (C := [_, _, _, _]) h200 [] (by decide)
      simp only [pick, List.filterMap_cons, List.filterMap_nil, List.getElem?_cons_zero, List.getElem?_cons_succ, List.cons_append, List.nil_append] at h203
      subst r
      refine RetOk.mk (.tmp_bool rfl .nil) ?_
      obtain ⟨CF, hx1, hx2⟩ := hFr
      subst hx1
      have hdr := St.dropC (N := []) h203
      exact ⟨rfl, hdr⟩
    ·
      replace hR := ifF hR hc201
      refine W.condF (congrArg Value.bool (Bool.eq_false_iff.2 hc201)) ?_
      refine W.skip ?_
      refine hK76 _ _ ?_; clear hK76
      refine W.seq_k fun K204 hK204 => ?_
      refine W.regionT [(0, true), (1, true), (2, false), (3, true), (4, true), (5, true), (6, true), (7, true)] (by kernel_rfl) ?_
      refine Plan.move_slice rfl rfl ?_
      refine Plan.loadA h200 rfl rfl (.cons 1 rfl (.cons 2 rfl (.cons 3 rfl .nil))) FPackFinds.agg25 ?_
      obtain ⟨x_206, x_207, hr205, hR⟩ := hR
      refine Plan.call (vs := [.slice ay0_14 x_13.length cy0_17, AG [(1, fun _ => .int .i64 x_29), (1, fun _ => .slice ay0_1_33 x_30.length cy0_1_34), (1, fun _ => .slice ay0_2_36 x_31.length cy0_2_37)]]) rfl FPackFinds.call19 rfl (pack_Put_ok (by exact (LV.grow D25_lifts (fun r hr => List.mem_append_right [_, _, _, _] ((fun _ h => h) r hr)) (LO.lvf EL.at_flat ho67 0 rfl))) (hv65.app [_, _, _, _]) (hv66.app [_, _, _, _]) hr205 h200) ?_
      rintro _ w213 ⟨C213, ay0_208, py0_209, ny0_210, cy0_211, Fy0_212, rfl, h213, hf213_0⟩
      try dsimp only at hf213_0
      replace h213 := St.pool (N := [_]) (R := [_, _, _, _]) h213
      obtain ⟨L, hL214⟩ : ∃ X, X = C213 ++ L := ⟨_, rfl⟩
      have h214 := St.re (N := [_, _, _, _, _]) hL214 h213
      simp only [List.cons_append, List.nil_append] at h214
      replace hFr : Fr2 _ _ L L := hFr.step hL214 hL214
      obtain ⟨ix215, hv215⟩ : ∃ i, Bx L i ay0_1_33 x_30.length cy0_1_34 x_30 := ⟨_, by rw [hL214]; exact hv65.app _⟩
      obtain ⟨ix216, hv216⟩ : ∃ i, Bx L i ay0_2_36 x_31.length cy0_2_37 x_31 := ⟨_, by rw [hL214]; exact hv66.app _⟩
      have ho217 : LO (D25.at L) [] ay0_14 py0_15 (x_13).length cy0_17 Fy0_18 x_13 := by rw [hL214]; exact LO.grow D25_lifts (fun r hr => List.mem_append_right _ hr) ho67
      obtain rfl := hf213_0.hl
      have hd213_0 : LO (D25.at L) [] ay0_208 py0_209 (x_206).length cy0_211 Fy0_212 x_206 := LO.grow D25_lifts (fun r hr => (by rw [hL214]; exact List.mem_append_left _ hr)) hf213_0
      refine ⟨_, rfl, .inr ⟨rfl, ?_⟩⟩
      refine Plan.move_tuple rfl rfl ?_
      refine Plan.extract_slice rfl rfl rfl ?_
      refine Plan.extract_int rfl rfl rfl ?_
      refine Plan.assign_slice rfl rfl ?_
      refine Plan.assign_int rfl rfl ?_
      refine Plan.nil ?_
      refine hK204 _ _ ?_; clear hK204
      refine W.seq_k fun K218 hK218 => ?_
      refine W.regionT [(0, true), (1, true), (2, true), (3, true), (4, true), (5, false), (6, true), (7, true), (8, true), (9, true), (10, true)] (by kernel_rfl) ?_
      refine Plan.move_slice rfl rfl ?_
      refine Plan.fieldAddr0 FPackFinds.fld25_0 rfl rfl ?_
      refine Plan.load0 h214 2 rfl rfl rfl (by omega) FPackFinds.sc3 ?_
      refine Plan.fieldAddr 1 FPackFinds.fld25_1 rfl rfl ?_
      refine Plan.load0 h214 3 rfl rfl rfl (by omega) FPackFinds.sc23 ?_
      obtain ⟨x_220, x_221, hr219, hR⟩ := hR
      refine Plan.call (vs := [.slice ay0_208 x_206.length cy0_211, .int .i64 x_29, .slice ay0_1_33 x_30.length cy0_1_34]) rfl FPackFinds.call20 rfl (pack_Find_ok (by exact (LV.grow D25_lifts (fun r hr => List.mem_append_right [_, _, _, _, _] ((fun _ h => h) r hr)) (LO.lvf EL.at_flat hd213_0 0 rfl))) (hv215.app [_, _, _, _, _]) hr219 h214) ?_
      rintro _ w222 ⟨rfl, h222⟩
      refine ⟨_, rfl, .inr ⟨rfl, ?_⟩⟩
      refine Plan.move_tuple rfl rfl ?_
      refine Plan.extract_int rfl rfl rfl ?_
      refine Plan.extract_bool rfl rfl rfl ?_
      refine Plan.assign_int rfl rfl ?_
      refine Plan.assign_bool rfl rfl ?_
      refine Plan.nil ?_
      refine hK218 _ _ ?_; clear hK218
      refine W.seq_k fun K223 hK223 => ?_
      refine W.seq_k fun K241 hK241 => ?_
      refine W.regionD FPackFinds.mixed [(0, true), (1, true), (2, true), (3, true), (4, true), (5, true), (6, true), (7, true), (8, true), (9, true), (10, true), (11, true), (12, true), (13, true), (14, true), (15, true), (16, true), (17, true), (18, true), (19, true), (20, true), (21, true), (22, true), (23, true), (24, false), (25, true), (26, true)] (by kernel_rfl) ?_
      have h242 := h222.drew
      refine Plan.move_int rfl rfl ?_
      by_cases hc243 : x_207 ≠ 0
      ·
        replace hR := ifT hR hc243
        refine Plan.cmpV (a := (((x_207 : Nat) : Int) : Int)) (b := (0 : Int)) (p := x_207 ≠ 0) (v := true) rfl rfl rfl rfl icmp_neN (decide_eq_true hc243) ?_
        refine Plan.move_bool rfl rfl ?_
        refine Plan.passed rfl ?_
        refine Plan.passed rfl ?_
        refine Plan.pickTb rfl rfl rfl ?_
        refine Plan.move_bool rfl rfl ?_
        refine Plan.passed rfl ?_
        refine Plan.passed rfl ?_
        refine Plan.pickTb rfl rfl rfl ?_
        refine Plan.move_bool rfl rfl ?_
        refine Plan.passed rfl ?_
        refine Plan.passed rfl ?_
        refine Plan.passed rfl ?_
        refine Plan.passed rfl ?_
        refine Plan.pickTb rfl rfl rfl ?_
        refine Plan.move_bool rfl rfl ?_
        refine Plan.passed rfl ?_
        refine Plan.passed rfl ?_
        refine Plan.passed rfl ?_
        refine Plan.passed rfl ?_
        refine Plan.passed rfl ?_
        refine Plan.passed rfl ?_
        refine Plan.passed rfl ?_
        refine Plan.passed rfl ?_
        refine Plan.passed rfl ?_
        refine Plan.pickTb rfl rfl rfl ?_
        refine Plan.nil ?_
        refine hK241 _ _ ?_; clear hK241
        refine W.condT rfl ?_
        refine W.seq_k fun K244 hK244 => ?_
        refine W.regionT [(0, true)] (by kernel_rfl) ?_
        refine Plan.assign_bool rfl rfl ?_
        refine Plan.nil ?_
        refine hK244 _ _ ?_; clear hK244
        refine W.ret (thenR_ret (finR_ret ?_))
        have h245 := St.pickT (C := [_, _, _, _, _]) h242 [] (by decide)
        simp only [pick, List.filterMap_cons, List.filterMap_nil, List.getElem?_cons_zero, List.getElem?_cons_succ, List.cons_append, List.nil_append] at h245
        subst r
        refine RetOk.mk (.tmp_bool rfl .nil) ?_
        obtain ⟨CF, hx1, hx2⟩ := hFr
        subst hx1
        have hdr := St.dropC (N := []) h245
        exact ⟨rfl, hdr⟩
      ·
        replace hR := ifF hR hc243
        refine Plan.cmpV (a := (((x_207 : Nat) : Int) : Int)) (b := (0 : Int)) (p := x_207 ≠ 0) (v := false) rfl rfl rfl rfl icmp_neN (decide_eq_false hc243) ?_
        refine Plan.move_bool rfl rfl ?_
        by_cases hc246 : x_221 = true
        ·
          replace hR := ifT hR hc246
          refine Plan.move_bool (b := true) rfl (congrArg Value.bool hc246) ?_
          refine Plan.notT rfl rfl ?_
          refine Plan.pickFb rfl rfl rfl ?_
          refine Plan.move_bool rfl rfl ?_
          refine Plan.move_int rfl rfl ?_
          by_cases hc247 : x_220 < 0
          ·
            replace hR := ifT hR hc247
            refine Plan.cmpV (a := (((x_220 : Nat) : Int) : Int)) (b := (0 : Int)) (p := x_220 < 0) (v := true) rfl rfl rfl rfl icmp_ltN (decide_eq_true hc247) ?_
            refine Plan.pickFb rfl rfl rfl ?_
            refine Plan.move_bool rfl rfl ?_
            refine Plan.passed rfl ?_
            refine Plan.passed rfl ?_
            refine Plan.passed rfl ?_
            refine Plan.passed rfl ?_
            refine Plan.pickTb rfl rfl rfl ?_
            refine Plan.move_bool rfl rfl ?_
            refine Plan.passed rfl ?_
            refine Plan.passed rfl ?_
            refine Plan.passed rfl ?_
            refine Plan.passed rfl ?_
            refine Plan.passed rfl ?_
            refine Plan.passed rfl ?_
            refine Plan.passed rfl ?_
            refine Plan.passed rfl ?_
            refine Plan.passed rfl ?_
            refine Plan.pickTb rfl rfl rfl ?_
            refine Plan.nil ?_
            refine hK241 _ _ ?_; clear hK241
            refine W.condT rfl ?_
            refine W.seq_k fun K248 hK248 => ?_
            refine W.regionT [(0, true)] (by kernel_rfl) ?_
            refine Plan.assign_bool rfl rfl ?_
            refine Plan.nil ?_
            refine hK248 _ _ ?_; clear hK248
            refine W.ret (thenR_ret (finR_ret ?_))
            have h249 := St.pickT (C := [_, _, _, _, _]) h242 [] (by decide)
            simp only [pick, List.filterMap_cons, List.filterMap_nil, List.getElem?_cons_zero, List.getElem?_cons_succ, List.cons_append, List.nil_append] at h249
            subst r
            refine RetOk.mk (.tmp_bool rfl .nil) ?_
            obtain ⟨CF, hx1, hx2⟩ := hFr
            subst hx1
            have hdr := St.dropC (N := []) h249
            exact ⟨rfl, hdr⟩
          ·
            replace hR := ifF hR hc247
            refine Plan.cmpV (a := (((x_220 : Nat) : Int) : Int)) (b := (0 : Int)) (p := x_220 < 0) (v := false) rfl rfl rfl rfl icmp_ltN (decide_eq_false hc247) ?_
            refine Plan.pickFb rfl rfl rfl ?_
            refine Plan.move_bool rfl rfl ?_
            refine Plan.move_int rfl rfl ?_
            refine Plan.move_slice rfl rfl ?_
            refine Plan.len FPackFinds.isl22 rfl rfl ?_
            by_cases hc250 : x_206.length ≤ x_220
            ·
              replace hR := ifT hR hc250
              refine Plan.cmpV (a := (((x_220 : Nat) : Int) : Int)) (b := (((x_206.length : Nat) : Int) : Int)) (p := x_206.length ≤ x_220) (v := true) rfl rfl rfl rfl icmp_geN (decide_eq_true hc250) ?_
              refine Plan.pickFb rfl rfl rfl ?_
              refine Plan.move_bool rfl rfl ?_
              refine Plan.passed rfl ?_
              refine Plan.passed rfl ?_
              refine Plan.passed rfl ?_
              refine Plan.passed rfl ?_
              refine Plan.passed rfl ?_
              refine Plan.passed rfl ?_
              refine Plan.passed rfl ?_
              refine Plan.passed rfl ?_
              refine Plan.passed rfl ?_
              refine Plan.pickTb rfl rfl rfl ?_
              refine Plan.nil ?_
              refine hK241 _ _ ?_; clear hK241
              refine W.condT rfl ?_
              refine W.seq_k fun K251 hK251 => ?_
              refine W.regionT [(0, true)] (by kernel_rfl) ?_
              refine Plan.assign_bool rfl rfl ?_
              refine Plan.nil ?_
              refine hK251 _ _ ?_; clear hK251
              refine W.ret (thenR_ret (finR_ret ?_))
              have h252 := St.pickT (C := [_, _, _, _, _]) h242 [] (by decide)
              simp only [pick, List.filterMap_cons, List.filterMap_nil, List.getElem?_cons_zero, List.getElem?_cons_succ, List.cons_append, List.nil_append] at h252
              subst r
              refine RetOk.mk (.tmp_bool rfl .nil) ?_
              obtain ⟨CF, hx1, hx2⟩ := hFr
              subst hx1
              have hdr := St.dropC (N := []) h252
              exact ⟨rfl, hdr⟩
            ·
              replace hR := ifF hR hc250
              refine Plan.cmpV (a := (((x_220 : Nat) : Int) : Int)) (b := (((x_206.length : Nat) : Int) : Int)) (p := x_206.length ≤ x_220) (v := false) rfl rfl rfl rfl icmp_geN (decide_eq_false hc250) ?_
              refine Plan.pickFb rfl rfl rfl ?_
              refine Plan.move_bool rfl rfl ?_
              refine Plan.move_slice rfl rfl ?_
              refine Plan.move_int rfl rfl ?_
              obtain ⟨hc253, hR⟩ := hR
              refine Plan.idxLVS (D := (D25.at L)) (j := x_220) h242 (LO.lvf EL.at_flat hd213_0 0 rfl) FPackFinds.sl22 rfl rfl rfl hc253 ?_
              refine Plan.fieldLV (D := (D25.at L)) (j := x_220) (sz := 3) h242 2 (LO.lvf EL.at_flat hd213_0 0 rfl) hc253 FPackFinds.fld25_2 rfl rfl ?_
              refine Plan.loadLVf (D := (D25.at L)) (X := x_206) (j := x_220) (sz := 3) (off := 2) h242 ((0 : Int), ([] : List Byte), ([] : List Byte)) (fun b x => .slice b.2.1 x.2.2.length b.2.2) (LO.lvf EL.at_flat hd213_0 0 rfl) rfl rfl hc253 rfl (by decide) (fun _ _ => rfl) FPackFinds.sc23 fun b254 r254 hs254 hr254 => ?_
              obtain ⟨⟨i254_1, hv254_1⟩, ⟨i254_2, hv254_2⟩⟩ := hs254
              refine Plan.fieldAddr 2 FPackFinds.fld25_2 rfl rfl ?_
              refine Plan.load0 h242 4 rfl rfl rfl (by omega) FPackFinds.sc23 ?_
              obtain ⟨x_256, hr255, hR⟩ := hR
              refine Plan.call (vs := [.slice ((b254.2).1) (((x_206.getD x_220 ((0 : Int), ([] : List Byte), ([] : List Byte))).2.2).length) ((b254.2).2), .slice ay0_2_36 x_31.length cy0_2_37]) rfl FPackFinds.call17 rfl (lethelaw11_Eq_ok (hv254_2.app [_, _, _, _, _]) (hv216.app [_, _, _, _, _]) hr255 h242) ?_
              rintro _ w257 ⟨rfl, h257⟩
              refine ⟨_, rfl, .inr ⟨rfl, ?_⟩⟩
              refine Plan.not rfl rfl ?_
              refine Plan.pickFb rfl rfl rfl ?_
              refine Plan.nil ?_
              refine hK241 _ _ ?_; clear hK241
              by_cases hc258 : x_256 = true
              ·
                replace hR := ifT hR hc258
                refine W.condF (congrArg Value.bool (congrArg Bool.not hc258)) ?_
                refine W.skip ?_
                refine hK223 _ _ ?_; clear hK223
                refine W.seq_k fun K259 hK259 => ?_
                refine W.seq_k fun K260 hK260 => ?_
                refine W.regionT [(0, true)] (by kernel_rfl) ?_
                refine Plan.assign_int rfl rfl ?_
                refine Plan.nil ?_
                refine hK260 _ _ ?_; clear hK260
                obtain ⟨x338, hI338, hR0338⟩ := hR
                refine W.cutN (fun e w => x338 = some () ∧ EnvHas e [(4, .pointer (some ⟨b9, 0, none⟩)), (9, .slice ay0_208 x_206.length cy0_211), (11, VN x_220)] ∧ St B w0 (⟨py0_209, 0, cy0_211 * 3, Fy0_212, true⟩ :: ⟨some b9, 0, 1, fun _ => .int .i64 x_29, true⟩ :: ⟨some b9, 1, 1, fun _ => .slice ay0_1_33 x_30.length cy0_1_34, true⟩ :: ⟨some b9, 2, 1, fun _ => .slice ay0_2_36 x_31.length cy0_2_37, true⟩ :: L) w) ?_ ?_
                ·
                  refine W.block ?_
                  have h339 := St.pickT (C := [_, _, _, _, _]) h257 [0, 2, 3, 4] (by decide)
                  simp only [pick, List.filterMap_cons, List.filterMap_nil, List.getElem?_cons_zero, List.getElem?_cons_succ, List.cons_append, List.nil_append] at h339
                  refine W.iter hI338 (fun (s338 : Nat) e w => EnvHas e [(4, .pointer (some ⟨b9, 0, none⟩)), (9, .slice ay0_208 x_206.length cy0_211), (11, VN x_220), (13, VN s338)] ∧ St B w0 (⟨py0_209, 0, cy0_211 * 3, Fy0_212, true⟩ :: ⟨some b9, 0, 1, fun _ => .int .i64 x_29, true⟩ :: ⟨some b9, 1, 1, fun _ => .slice ay0_1_33 x_30.length cy0_1_34, true⟩ :: ⟨some b9, 2, 1, fun _ => .slice ay0_2_36 x_31.length cy0_2_37, true⟩ :: L) w) ⟨(EnvHas.cons rfl (EnvHas.cons rfl (EnvHas.cons rfl (EnvHas.cons rfl EnvHas.nil)))), h339⟩ ?_
                  rintro i_337 o338 hR hx338 ev340 wl340 ⟨he340, h340⟩
                  obtain ⟨ev340, rfl⟩ := he340.open
                  unfold lethelaw11_PackFinds_l0 at hR
                  refine W.seq_k fun K341 hK341 => ?_
                  refine W.seq_k fun K342 hK342 => ?_
                  refine W.regionT [(0, true), (1, true), (2, true), (3, true)] (by kernel_rfl) ?_
                  refine Plan.move_int rfl rfl ?_
                  refine Plan.move_slice rfl rfl ?_
                  refine Plan.len FPackFinds.isl22 rfl rfl ?_
                  refine Plan.cmpP (a := (((i_337 : Nat) : Int) : Int)) (b := (((x_206.length : Nat) : Int) : Int)) (p := i_337 < x_206.length) rfl rfl rfl rfl icmp_ltN ?_
                  refine Plan.nil ?_
                  refine hK342 _ _ ?_; clear hK342
                  by_cases hc343 : i_337 < x_206.length
                  ·
                    replace hR := ifT hR hc343
                    refine W.condT (congrArg Value.bool (decide_eq_true hc343)) ?_
                    refine W.skip ?_
                    refine hK341 _ _ ?_; clear hK341
                    refine W.seq_k fun K344 hK344 => ?_
                    refine W.block ?_
                    refine W.seq_k fun K345 hK345 => ?_
                    refine W.regionD FPackFinds.mixed [(0, true), (1, true), (2, true), (3, true), (4, true), (5, false), (6, true)] (by kernel_rfl) ?_
                    have h346 := h340.drew
                    refine Plan.move_slice rfl rfl ?_
                    refine Plan.move_int rfl rfl ?_
                    obtain ⟨hc347, hR⟩ := hR
                    refine Plan.idxLVS (D := (D25.at L)) (j := i_337) h346 (LO.lvf EL.at_flat hd213_0 0 rfl) FPackFinds.sl22 rfl rfl rfl hc347 ?_
                    refine Plan.loadLV (D := (D25.at L)) (X := x_206) (j := i_337) (sz := 3) h346 ((0 : Int), ([] : List Byte), ([] : List Byte)) (LO.lvf EL.at_flat hd213_0 0 rfl) rfl rfl hc347 rfl FPackFinds.agg25 fun b348 r348 hs348 hr348 => ?_
                    obtain ⟨⟨i348_1, hv348_1⟩, ⟨i348_2, hv348_2⟩⟩ := hs348
                    refine Plan.loadA h346 rfl rfl (.cons 1 rfl (.cons 2 rfl (.cons 3 rfl .nil))) FPackFinds.agg25 ?_
                    obtain ⟨x_350, hr349, hR⟩ := hR
                    refine Plan.call (vs := [AG [(1, fun _ => .int .i64 ((x_206.getD i_337 ((0 : Int), ([] : List Byte), ([] : List Byte))).1)), (1, fun _ => .slice ((b348.1).1) (((x_206.getD i_337 ((0 : Int), ([] : List Byte), ([] : List Byte))).2.1).length) ((b348.1).2)), (1, fun _ => .slice ((b348.2).1) (((x_206.getD i_337 ((0 : Int), ([] : List Byte), ([] : List Byte))).2.2).length) ((b348.2).2))], AG [(1, fun _ => .int .i64 x_29), (1, fun _ => .slice ay0_1_33 x_30.length cy0_1_34), (1, fun _ => .slice ay0_2_36 x_31.length cy0_2_37)]]) rfl FPackFinds.call16 rfl (pack_Compare_ok (hv348_1.app [_, _, _, _]) (hv348_2.app [_, _, _, _]) (hv215.app [_, _, _, _]) (hv216.app [_, _, _, _]) hr349 h346) ?_
                    rintro _ w351 ⟨rfl, h351⟩
                    refine ⟨_, rfl, .inr ⟨rfl, ?_⟩⟩
                    refine Plan.assign_int rfl rfl ?_
                    refine Plan.nil ?_
                    refine hK345 _ _ ?_; clear hK345
                    refine W.seq_k fun K352 hK352 => ?_
                    obtain ⟨t363, hX364, hR0364⟩ := hR
                    refine W.cutN (fun e w => ∃ y_t363 : Bool, (t363 = y_t363) ∧ EnvHas e [(4, .pointer (some ⟨b9, 0, none⟩)), (9, .slice ay0_208 x_206.length cy0_211), (11, VN x_220), (13, VN i_337), (145, .bool y_t363)] ∧ St B w0 (⟨py0_209, 0, cy0_211 * 3, Fy0_212, true⟩ :: ⟨some b9, 0, 1, fun _ => .int .i64 x_29, true⟩ :: ⟨some b9, 1, 1, fun _ => .slice ay0_1_33 x_30.length cy0_1_34, true⟩ :: ⟨some b9, 2, 1, fun _ => .slice ay0_2_36 x_31.length cy0_2_37, true⟩ :: L) w) ?_ ?_
                    ·
                      replace hR := hX364
                      refine W.regionT [(0, true), (1, true), (2, true), (3, true), (4, true), (5, true), (6, true), (7, true), (8, true), (9, true), (10, true), (11, true), (12, true), (13, true), (14, true), (15, true), (16, true), (17, true), (18, true), (19, true), (20, true), (21, true), (22, true), (23, true), (24, true)] (by kernel_rfl) ?_
                      refine Plan.move_int rfl rfl ?_
                      refine Plan.move_int rfl rfl ?_
                      by_cases hc365 : i_337 < x_220
                      ·
                        replace hR := ifT hR hc365
                        refine Plan.cmpV (a := (((i_337 : Nat) : Int) : Int)) (b := (((x_220 : Nat) : Int) : Int)) (p := i_337 < x_220) (v := true) rfl rfl rfl rfl icmp_ltN (decide_eq_true hc365) ?_
                        refine Plan.move_bool rfl rfl ?_
                        refine Plan.move_int rfl rfl ?_
                        by_cases hc366 : x_350 ≠ (-1)
                        ·
                          replace hR := ifT hR hc366
                          refine Plan.cmpV (a := (x_350 : Int)) (b := ((-1) : Int)) (p := x_350 ≠ (-1)) (v := true) rfl rfl rfl rfl icmp_ne (decide_eq_true hc366) ?_
                          refine Plan.pickTb rfl rfl rfl ?_
                          refine Plan.move_bool rfl rfl ?_
                          refine Plan.passed rfl ?_
                          refine Plan.passed rfl ?_
                          refine Plan.passed rfl ?_
                          refine Plan.passed rfl ?_
                          refine Plan.passed rfl ?_
                          refine Plan.passed rfl ?_
                          refine Plan.passed rfl ?_
                          refine Plan.pickTb rfl rfl rfl ?_
                          refine Plan.move_bool rfl rfl ?_
                          refine Plan.passed rfl ?_
                          refine Plan.passed rfl ?_
                          refine Plan.passed rfl ?_
                          refine Plan.passed rfl ?_
                          refine Plan.passed rfl ?_
                          refine Plan.passed rfl ?_
                          refine Plan.passed rfl ?_
                          refine Plan.pickTb rfl rfl rfl ?_
                          refine Plan.nil ?_
                          exact ⟨true, hR, (EnvHas.cons rfl (EnvHas.cons rfl (EnvHas.cons rfl (EnvHas.cons rfl (EnvHas.cons rfl EnvHas.nil))))), h351⟩
                        ·
                          replace hR := ifF hR hc366
                          refine Plan.cmpV (a := (x_350 : Int)) (b := ((-1) : Int)) (p := x_350 ≠ (-1)) (v := false) rfl rfl rfl rfl icmp_ne (decide_eq_false hc366) ?_
                          refine Plan.pickTb rfl rfl rfl ?_
                          refine Plan.move_bool rfl rfl ?_
                          refine Plan.move_int rfl rfl ?_
                          refine Plan.move_int rfl rfl ?_
                          by_cases hc367 : i_337 = x_220
                          ·
                            replace hR := ifT hR hc367
                            refine Plan.cmpV (a := (((i_337 : Nat) : Int) : Int)) (b := (((x_220 : Nat) : Int) : Int)) (p := i_337 = x_220) (v := true) rfl rfl rfl rfl icmp_eqN (decide_eq_true hc367) ?_
                            refine Plan.move_bool rfl rfl ?_
                            refine Plan.move_int rfl rfl ?_
                            by_cases hc368 : x_350 ≠ 0
                            ·
                              replace hR := ifT hR hc368
                              refine Plan.cmpV (a := (x_350 : Int)) (b := (0 : Int)) (p := x_350 ≠ 0) (v := true) rfl rfl rfl rfl icmp_ne (decide_eq_true hc368) ?_
                              refine Plan.pickTb rfl rfl rfl ?_
                              refine Plan.pickFb rfl rfl rfl ?_
                              refine Plan.move_bool rfl rfl ?_
                              refine Plan.passed rfl ?_
                              refine Plan.passed rfl ?_
                              refine Plan.passed rfl ?_
                              refine Plan.passed rfl ?_
                              refine Plan.passed rfl ?_
                              refine Plan.passed rfl ?_
                              refine Plan.passed rfl ?_
                              refine Plan.pickTb rfl rfl rfl ?_
                              refine Plan.nil ?_
                              exact ⟨true, hR, (EnvHas.cons rfl (EnvHas.cons rfl (EnvHas.cons rfl (EnvHas.cons rfl (EnvHas.cons rfl EnvHas.nil))))), h351⟩
                            ·
                              replace hR := ifF hR hc368
                              refine Plan.cmpV (a := (x_350 : Int)) (b := (0 : Int)) (p := x_350 ≠ 0) (v := false) rfl rfl rfl rfl icmp_ne (decide_eq_false hc368) ?_
                              refine Plan.pickTb rfl rfl rfl ?_
                              refine Plan.pickFb rfl rfl rfl ?_
                              refine Plan.move_bool rfl rfl ?_
                              refine Plan.move_int rfl rfl ?_
                              refine Plan.move_int rfl rfl ?_
                              by_cases hc369 : x_220 < i_337
                              ·
                                replace hR := ifT hR hc369
                                refine Plan.cmpV (a := (((i_337 : Nat) : Int) : Int)) (b := (((x_220 : Nat) : Int) : Int)) (p := x_220 < i_337) (v := true) rfl rfl rfl rfl icmp_gtN (decide_eq_true hc369) ?_
                                refine Plan.move_bool rfl rfl ?_
                                refine Plan.move_int rfl rfl ?_
                                refine Plan.cmpP (a := (x_350 : Int)) (b := (1 : Int)) (p := x_350 ≠ 1) rfl rfl rfl rfl icmp_ne ?_
                                refine Plan.pickTb rfl rfl rfl ?_
                                refine Plan.pickFb rfl rfl rfl ?_
                                refine Plan.nil ?_
                                exact ⟨(decide (x_350 ≠ 1)), hR, (EnvHas.cons rfl (EnvHas.cons rfl (EnvHas.cons rfl (EnvHas.cons rfl (EnvHas.cons rfl EnvHas.nil))))), h351⟩
                              ·
                                replace hR := ifF hR hc369
                                refine Plan.cmpV (a := (((i_337 : Nat) : Int) : Int)) (b := (((x_220 : Nat) : Int) : Int)) (p := x_220 < i_337) (v := false) rfl rfl rfl rfl icmp_gtN (decide_eq_false hc369) ?_
                                refine Plan.move_bool rfl rfl ?_
                                refine Plan.passed rfl ?_
                                refine Plan.passed rfl ?_
                                refine Plan.pickFb rfl rfl rfl ?_
                                refine Plan.pickFb rfl rfl rfl ?_
                                refine Plan.nil ?_
                                exact ⟨false, hR, (EnvHas.cons rfl (EnvHas.cons rfl (EnvHas.cons rfl (EnvHas.cons rfl (EnvHas.cons rfl EnvHas.nil))))), h351⟩
                          ·
                            replace hR := ifF hR hc367
                            refine Plan.cmpV (a := (((i_337 : Nat) : Int) : Int)) (b := (((x_220 : Nat) : Int) : Int)) (p := i_337 = x_220) (v := false) rfl rfl rfl rfl icmp_eqN (decide_eq_false hc367) ?_
                            refine Plan.move_bool rfl rfl ?_
                            refine Plan.passed rfl ?_
                            refine Plan.passed rfl ?_
                            refine Plan.pickFb rfl rfl rfl ?_
                            refine Plan.pickFb rfl rfl rfl ?_
                            refine Plan.move_bool rfl rfl ?_
                            refine Plan.move_int rfl rfl ?_
                            refine Plan.move_int rfl rfl ?_
                            by_cases hc370 : x_220 < i_337
                            ·
                              replace hR := ifT hR hc370
                              refine Plan.cmpV (a := (((i_337 : Nat) : Int) : Int)) (b := (((x_220 : Nat) : Int) : Int)) (p := x_220 < i_337) (v := true) rfl rfl rfl rfl icmp_gtN (decide_eq_true hc370) ?_
                              refine Plan.move_bool rfl rfl ?_
                              refine Plan.move_int rfl rfl ?_
                              refine Plan.cmpP (a := (x_350 : Int)) (b := (1 : Int)) (p := x_350 ≠ 1) rfl rfl rfl rfl icmp_ne ?_
                              refine Plan.pickTb rfl rfl rfl ?_
                              refine Plan.pickFb rfl rfl rfl ?_
                              refine Plan.nil ?_
                              exact ⟨(decide (x_350 ≠ 1)), hR, (EnvHas.cons rfl (EnvHas.cons rfl (EnvHas.cons rfl (EnvHas.cons rfl (EnvHas.cons rfl EnvHas.nil))))), h351⟩
                            ·
                              replace hR := ifF hR hc370
                              refine Plan.cmpV (a := (((i_337 : Nat) : Int) : Int)) (b := (((x_220 : Nat) : Int) : Int)) (p := x_220 < i_337) (v := false) rfl rfl rfl rfl icmp_gtN (decide_eq_false hc370) ?_
                              refine Plan.move_bool rfl rfl ?_
                              refine Plan.passed rfl ?_
                              refine Plan.passed rfl ?_
                              refine Plan.pickFb rfl rfl rfl ?_
                              refine Plan.pickFb rfl rfl rfl ?_
                              refine Plan.nil ?_
                              exact ⟨false, hR, (EnvHas.cons rfl (EnvHas.cons rfl (EnvHas.cons rfl (EnvHas.cons rfl (EnvHas.cons rfl EnvHas.nil))))), h351⟩
                      ·
                        replace hR := ifF hR hc365
                        refine Plan.cmpV (a := (((i_337 : Nat) : Int) : Int)) (b := (((x_220 : Nat) : Int) : Int)) (p := i_337 < x_220) (v := false) rfl rfl rfl rfl icmp_ltN (decide_eq_false hc365) ?_
                        refine Plan.move_bool rfl rfl ?_
                        refine Plan.passed rfl ?_
                        refine Plan.passed rfl ?_
                        refine Plan.pickFb rfl rfl rfl ?_
                        refine Plan.move_bool rfl rfl ?_
                        refine Plan.move_int rfl rfl ?_
                        refine Plan.move_int rfl rfl ?_
                        by_cases hc371 : i_337 = x_220
                        ·
                          replace hR := ifT hR hc371
                          refine Plan.cmpV (a := (((i_337 : Nat) : Int) : Int)) (b := (((x_220 : Nat) : Int) : Int)) (p := i_337 = x_220) (v := true) rfl rfl rfl rfl icmp_eqN (decide_eq_true hc371) ?_
                          refine Plan.move_bool rfl rfl ?_
                          refine Plan.move_int rfl rfl ?_
                          by_cases hc372 : x_350 ≠ 0
                          ·
                            replace hR := ifT hR hc372
                            refine Plan.cmpV (a := (x_350 : Int)) (b := (0 : Int)) (p := x_350 ≠ 0) (v := true) rfl rfl rfl rfl icmp_ne (decide_eq_true hc372) ?_
                            refine Plan.pickTb rfl rfl rfl ?_
                            refine Plan.pickFb rfl rfl rfl ?_
                            refine Plan.move_bool rfl rfl ?_
                            refine Plan.passed rfl ?_
                            refine Plan.passed rfl ?_
                            refine Plan.passed rfl ?_
                            refine Plan.passed rfl ?_
                            refine Plan.passed rfl ?_
                            refine Plan.passed rfl ?_
                            refine Plan.passed rfl ?_
                            refine Plan.pickTb rfl rfl rfl ?_
                            refine Plan.nil ?_
                            exact ⟨true, hR, (EnvHas.cons rfl (EnvHas.cons rfl (EnvHas.cons rfl (EnvHas.cons rfl (EnvHas.cons rfl EnvHas.nil))))), h351⟩
                          ·
                            replace hR := ifF hR hc372
                            refine Plan.cmpV (a := (x_350 : Int)) (b := (0 : Int)) (p := x_350 ≠ 0) (v := false) rfl rfl rfl rfl icmp_ne (decide_eq_false hc372) ?_
                            refine Plan.pickTb rfl rfl rfl ?_
                            refine Plan.pickFb rfl rfl rfl ?_
                            refine Plan.move_bool rfl rfl ?_
                            refine Plan.move_int rfl rfl ?_
                            refine Plan.move_int rfl rfl ?_
                            by_cases hc373 : x_220 < i_337
                            ·
                              replace hR := ifT hR hc373
                              refine Plan.cmpV (a := (((i_337 : Nat) : Int) : Int)) (b := (((x_220 : Nat) : Int) : Int)) (p := x_220 < i_337) (v := true) rfl rfl rfl rfl icmp_gtN (decide_eq_true hc373) ?_
                              refine Plan.move_bool rfl rfl ?_
                              refine Plan.move_int rfl rfl ?_
                              refine Plan.cmpP (a := (x_350 : Int)) (b := (1 : Int)) (p := x_350 ≠ 1) rfl rfl rfl rfl icmp_ne ?_
                              refine Plan.pickTb rfl rfl rfl ?_
                              refine Plan.pickFb rfl rfl rfl ?_
                              refine Plan.nil ?_
                              exact ⟨(decide (x_350 ≠ 1)), hR, (EnvHas.cons rfl (EnvHas.cons rfl (EnvHas.cons rfl (EnvHas.cons rfl (EnvHas.cons rfl EnvHas.nil))))), h351⟩
                            ·
                              replace hR := ifF hR hc373
                              refine Plan.cmpV (a := (((i_337 : Nat) : Int) : Int)) (b := (((x_220 : Nat) : Int) : Int)) (p := x_220 < i_337) (v := false) rfl rfl rfl rfl icmp_gtN (decide_eq_false hc373) ?_
                              refine Plan.move_bool rfl rfl ?_
                              refine Plan.passed rfl ?_
                              refine Plan.passed rfl ?_
                              refine Plan.pickFb rfl rfl rfl ?_
                              refine Plan.pickFb rfl rfl rfl ?_
                              refine Plan.nil ?_
                              exact ⟨false, hR, (EnvHas.cons rfl (EnvHas.cons rfl (EnvHas.cons rfl (EnvHas.cons rfl (EnvHas.cons rfl EnvHas.nil))))), h351⟩
                        ·
                          replace hR := ifF hR hc371
                          refine Plan.cmpV (a := (((i_337 : Nat) : Int) : Int)) (b := (((x_220 : Nat) : Int) : Int)) (p := i_337 = x_220) (v := false) rfl rfl rfl rfl icmp_eqN (decide_eq_false hc371) ?_
                          refine Plan.move_bool rfl rfl ?_
                          refine Plan.passed rfl ?_
                          refine Plan.passed rfl ?_
                          refine Plan.pickFb rfl rfl rfl ?_
                          refine Plan.pickFb rfl rfl rfl ?_
                          refine Plan.move_bool rfl rfl ?_
                          refine Plan.move_int rfl rfl ?_
                          refine Plan.move_int rfl rfl ?_
                          by_cases hc374 : x_220 < i_337
                          ·
                            replace hR := ifT hR hc374
                            refine Plan.cmpV (a := (((i_337 : Nat) : Int) : Int)) (b := (((x_220 : Nat) : Int) : Int)) (p := x_220 < i_337) (v := true) rfl rfl rfl rfl icmp_gtN (decide_eq_true hc374) ?_
                            refine Plan.move_bool rfl rfl ?_
                            refine Plan.move_int rfl rfl ?_
                            refine Plan.cmpP (a := (x_350 : Int)) (b := (1 : Int)) (p := x_350 ≠ 1) rfl rfl rfl rfl icmp_ne ?_
                            refine Plan.pickTb rfl rfl rfl ?_
                            refine Plan.pickFb rfl rfl rfl ?_
                            refine Plan.nil ?_
                            exact ⟨(decide (x_350 ≠ 1)), hR, (EnvHas.cons rfl (EnvHas.cons rfl (EnvHas.cons rfl (EnvHas.cons rfl (EnvHas.cons rfl EnvHas.nil))))), h351⟩
                          ·
                            replace hR := ifF hR hc374
                            refine Plan.cmpV (a := (((i_337 : Nat) : Int) : Int)) (b := (((x_220 : Nat) : Int) : Int)) (p := x_220 < i_337) (v := false) rfl rfl rfl rfl icmp_gtN (decide_eq_false hc374) ?_
                            refine Plan.move_bool rfl rfl ?_
                            refine Plan.passed rfl ?_
                            refine Plan.passed rfl ?_
                            refine Plan.pickFb rfl rfl rfl ?_
                            refine Plan.pickFb rfl rfl rfl ?_
                            refine Plan.nil ?_
                            exact ⟨false, hR, (EnvHas.cons rfl (EnvHas.cons rfl (EnvHas.cons rfl (EnvHas.cons rfl (EnvHas.cons rfl EnvHas.nil))))), h351⟩
                    ·
                      rintro ev375 wl375 ⟨y_t363, hy375_0, he375, h375⟩
                      subst hy375_0
                      obtain ⟨ev375, rfl⟩ := he375.open
                      replace hR := hR0364
                      refine hK352 _ _ ?_; clear hK352
                      by_cases hc376 : t363 = true
                      ·
                        replace hR := ifT hR hc376
                        refine W.condT (congrArg Value.bool hc376) ?_
                        refine W.seq_k fun K377 hK377 => ?_
                        refine W.regionT [(0, true)] (by kernel_rfl) ?_
                        refine Plan.assign_bool rfl rfl ?_
                        refine Plan.nil ?_
                        refine hK377 _ _ ?_; clear hK377
                        refine W.ret (blockR_ret (thenR_ret (iterR_ret (blockR_ret (thenR_ret (thenR_ret (finR_ret ?_)))))))
                        have h378 := St.pickT (C := [_, _, _, _]) h375 [] (by decide)
                        simp only [pick, List.filterMap_cons, List.filterMap_nil, List.getElem?_cons_zero, List.getElem?_cons_succ, List.cons_append, List.nil_append] at h378
                        replace hR := hR.2
                        subst r
                        refine RetOk.mk (.tmp_bool rfl .nil) ?_
                        obtain ⟨CF, hx1, hx2⟩ := hFr
                        subst hx1
                        have hdr := St.dropC (N := []) h378
                        exact ⟨rfl, hdr⟩
                      ·
                        replace hR := ifF hR hc376
                        refine W.condF (congrArg Value.bool (Bool.eq_false_iff.2 hc376)) ?_
                        refine W.skip ?_
                        refine blockR_norm ?_
                        refine hK344 _ _ ?_; clear hK344
                        refine W.regionT [(0, true), (1, true), (2, true)] (by kernel_rfl) ?_
                        refine Plan.move_int rfl rfl ?_
                        obtain ⟨hc379, hR⟩ := hR
                        refine Plan.addN (a := i_337) (b := 1) rfl rfl rfl (by omega) ?_
                        refine Plan.assign_int rfl rfl ?_
                        refine Plan.nil ?_
                        exact iterR_norm ⟨_, hR, (EnvHas.cons rfl (EnvHas.cons rfl (EnvHas.cons rfl (EnvHas.cons rfl EnvHas.nil)))), h375⟩
                  ·
                    replace hR := ifF hR hc343
                    refine W.condF (congrArg Value.bool (decide_eq_false hc343)) ?_
                    refine W.exit (thenR_exit (iterR_exit (blockR_here ?_)))
                    exact ⟨(hx338 _ hR).symm, (EnvHas.cons rfl (EnvHas.cons rfl (EnvHas.cons rfl EnvHas.nil))), h340⟩
                ·
                  rintro ev380 wl380 ⟨hy380, he380, h380⟩
                  obtain ⟨ev380, rfl⟩ := he380.open
                  replace hR := hR0338  hy380
                  refine hK259 _ _ ?_; clear hK259
                  refine W.seq_k fun K381 hK381 => ?_
                  refine W.regionT [(0, true), (1, true), (2, true), (3, true), (4, true), (5, false), (6, true), (7, true), (8, true), (9, true), (10, true)] (by kernel_rfl) ?_
                  refine Plan.move_slice rfl rfl ?_
                  refine Plan.fieldAddr0 FPackFinds.fld25_0 rfl rfl ?_
                  refine Plan.load0 h380 1 rfl rfl rfl (by omega) FPackFinds.sc3 ?_
                  refine Plan.fieldAddr 1 FPackFinds.fld25_1 rfl rfl ?_
                  refine Plan.load0 h380 2 rfl rfl rfl (by omega) FPackFinds.sc23 ?_
                  obtain ⟨x_383, x_384, hr382, hR⟩ := hR
                  refine Plan.call (vs := [.slice ay0_208 x_206.length cy0_211, .int .i64 x_29, .slice ay0_1_33 x_30.length cy0_1_34]) rfl FPackFinds.call21 rfl (pack_Delete_ok (by exact (LV.grow D25_lifts (fun r hr => List.mem_append_right [_, _, _, _] ((fun _ h => h) r hr)) (LO.lvf EL.at_flat hd213_0 0 rfl))) (hv215.app [_, _, _, _]) hr382 h380) ?_
                  rintro _ w390 ⟨C390, ay0_385, py0_386, ny0_387, cy0_388, Fy0_389, rfl, h390, hf390_0⟩
                  try dsimp only at hf390_0
                  replace h390 := St.pool (N := [_]) (R := [_, _, _, _]) h390
                  obtain ⟨L, hL391⟩ : ∃ X, X = C390 ++ L := ⟨_, rfl⟩
                  have h391 := St.re (N := [_, _, _, _, _]) hL391 h390
                  simp only [List.cons_append, List.nil_append] at h391
                  replace hFr : Fr2 _ _ L L := hFr.step hL391 hL391
                  obtain ⟨ix392, hv392⟩ : ∃ i, Bx L i ay0_1_33 x_30.length cy0_1_34 x_30 := ⟨_, by rw [hL391]; exact hv215.app _⟩
                  obtain ⟨ix393, hv393⟩ : ∃ i, Bx L i ay0_2_36 x_31.length cy0_2_37 x_31 := ⟨_, by rw [hL391]; exact hv216.app _⟩
                  have ho394 : LO (D25.at L) [] ay0_208 py0_209 (x_206).length cy0_211 Fy0_212 x_206 := by rw [hL391]; exact LO.grow D25_lifts (fun r hr => List.mem_append_right _ hr) hd213_0
                  obtain rfl := hf390_0.hl
                  have hd390_0 : LO (D25.at L) [] ay0_385 py0_386 (x_383).length cy0_388 Fy0_389 x_383 := LO.grow D25_lifts (fun r hr => (by rw [hL391]; exact List.mem_append_left _ hr)) hf390_0
                  refine ⟨_, rfl, .inr ⟨rfl, ?_⟩⟩
                  refine Plan.move_tuple rfl rfl ?_
                  refine Plan.extract_slice rfl rfl rfl ?_
                  refine Plan.extract_int rfl rfl rfl ?_
                  refine Plan.assign_slice rfl rfl ?_
                  refine Plan.assign_int rfl rfl ?_
                  refine Plan.nil ?_
                  refine hK381 _ _ ?_; clear hK381
                  refine W.seq_k fun K395 hK395 => ?_
                  refine W.regionT [(0, true), (1, true), (2, true), (3, true), (4, true), (5, false), (6, true), (7, true), (8, true), (9, true), (10, true)] (by kernel_rfl) ?_
                  refine Plan.move_slice rfl rfl ?_
                  refine Plan.fieldAddr0 FPackFinds.fld25_0 rfl rfl ?_
                  refine Plan.load0 h391 2 rfl rfl rfl (by omega) FPackFinds.sc3 ?_
                  refine Plan.fieldAddr 1 FPackFinds.fld25_1 rfl rfl ?_
                  refine Plan.load0 h391 3 rfl rfl rfl (by omega) FPackFinds.sc23 ?_
                  obtain ⟨x_397, x_398, hr396, hR⟩ := hR
                  refine Plan.call (vs := [.slice ay0_385 x_383.length cy0_388, .int .i64 x_29, .slice ay0_1_33 x_30.length cy0_1_34]) rfl FPackFinds.call20 rfl (pack_Find_ok (by exact (LV.grow D25_lifts (fun r hr => List.mem_append_right [_, _, _, _, _] ((fun _ h => h) r hr)) (LO.lvf EL.at_flat hd390_0 0 rfl))) (hv392.app [_, _, _, _, _]) hr396 h391) ?_
                  rintro _ w399 ⟨rfl, h399⟩
                  refine ⟨_, rfl, .inr ⟨rfl, ?_⟩⟩
                  refine Plan.move_tuple rfl rfl ?_
                  refine Plan.extract_int rfl rfl rfl ?_
                  refine Plan.extract_bool rfl rfl rfl ?_
                  refine Plan.assign_int rfl rfl ?_
                  refine Plan.assign_bool rfl rfl ?_
                  refine Plan.nil ?_
                  refine hK395 _ _ ?_; clear hK395
                  refine W.seq_k fun K400 hK400 => ?_
                  refine W.regionT [(0, true), (1, true), (2, true), (3, true), (4, true), (5, false), (6, true), (7, true), (8, true), (9, true), (10, true)] (by kernel_rfl) ?_
                  refine Plan.move_slice rfl rfl ?_
                  refine Plan.fieldAddr0 FPackFinds.fld25_0 rfl rfl ?_
                  refine Plan.load0 h399 2 rfl rfl rfl (by omega) FPackFinds.sc3 ?_
                  refine Plan.fieldAddr 1 FPackFinds.fld25_1 rfl rfl ?_
                  refine Plan.load0 h399 3 rfl rfl rfl (by omega) FPackFinds.sc23 ?_
                  obtain ⟨x_402, x_403, hr401, hR⟩ := hR
                  refine Plan.call (vs := [.slice ay0_385 x_383.length cy0_388, .int .i64 x_29, .slice ay0_1_33 x_30.length cy0_1_34]) rfl FPackFinds.call21 rfl (pack_Delete_ok (by exact (LV.grow D25_lifts (fun r hr => List.mem_append_right [_, _, _, _, _] ((fun _ h => h) r hr)) (LO.lvf EL.at_flat hd390_0 0 rfl))) (hv392.app [_, _, _, _, _]) hr401 h399) ?_
                  rintro _ w409 ⟨C409, ay0_404, py0_405, ny0_406, cy0_407, Fy0_408, rfl, h409, hf409_0⟩
                  try dsimp only at hf409_0
                  replace h409 := St.pool (N := [_]) (R := [_, _, _, _, _]) h409
                  obtain ⟨L, hL410⟩ : ∃ X, X = C409 ++ L := ⟨_, rfl⟩
                  have h410 := St.re (N := [_, _, _, _, _, _]) hL410 h409
                  simp only [List.cons_append, List.nil_append] at h410
                  replace hFr : Fr2 _ _ L L := hFr.step hL410 hL410
                  obtain ⟨ix411, hv411⟩ : ∃ i, Bx L i ay0_1_33 x_30.length cy0_1_34 x_30 := ⟨_, by rw [hL410]; exact hv392.app _⟩
                  obtain ⟨ix412, hv412⟩ : ∃ i, Bx L i ay0_2_36 x_31.length cy0_2_37 x_31 := ⟨_, by rw [hL410]; exact hv393.app _⟩
                  have ho413 : LO (D25.at L) [] ay0_385 py0_386 (x_383).length cy0_388 Fy0_389 x_383 := by rw [hL410]; exact LO.grow D25_lifts (fun r hr => List.mem_append_right _ hr) hd390_0
                  have ho414 : LO (D25.at L) [] ay0_208 py0_209 (x_206).length cy0_211 Fy0_212 x_206 := by rw [hL410]; exact LO.grow D25_lifts (fun r hr => List.mem_append_right _ hr) ho394
                  obtain rfl := hf409_0.hl
                  have hd409_0 : LO (D25.at L) [] ay0_404 py0_405 (x_402).length cy0_407 Fy0_408 x_402 := LO.grow D25_lifts (fun r hr => (by rw [hL410]; exact List.mem_append_left _ hr)) hf409_0
                  refine ⟨_, rfl, .inr ⟨rfl, ?_⟩⟩
                  refine Plan.move_tuple rfl rfl ?_
                  refine Plan.extract_slice rfl rfl rfl ?_
                  refine Plan.extract_int rfl rfl rfl ?_
                  refine Plan.assign_slice rfl rfl ?_
                  refine Plan.assign_int rfl rfl ?_
                  refine Plan.nil ?_
                  refine hK400 _ _ ?_; clear hK400
                  refine W.seq_k fun K415 hK415 => ?_
                  refine W.regionT [(0, true), (1, true), (2, true), (3, true), (4, true), (5, true), (6, true), (7, true), (8, true), (9, true), (10, true), (11, true), (12, true), (13, true), (14, true), (15, true)] (by kernel_rfl) ?_
                  refine Plan.move_int rfl rfl ?_
                  by_cases hc416 : x_384 = 0
                  ·
                    replace hR := ifT hR hc416
                    refine Plan.cmpV (a := (((x_384 : Nat) : Int) : Int)) (b := (0 : Int)) (p := x_384 = 0) (v := true) rfl rfl rfl rfl icmp_eqN (decide_eq_true hc416) ?_
                    refine Plan.move_bool rfl rfl ?_
                    by_cases hc417 : x_398 = true
                    ·
                      replace hR := ifT hR hc417
                      refine Plan.move_bool (b := true) rfl (congrArg Value.bool hc417) ?_
                      refine Plan.notT rfl rfl ?_
                      refine Plan.pickTb rfl rfl rfl ?_
                      refine Plan.move_bool rfl rfl ?_
                      refine Plan.passed rfl ?_
                      refine Plan.passed rfl ?_
                      refine Plan.passed rfl ?_
                      refine Plan.pickFb rfl rfl rfl ?_
                      refine Plan.move_bool rfl rfl ?_
                      refine Plan.passed rfl ?_
                      refine Plan.passed rfl ?_
                      refine Plan.pickFb rfl rfl rfl ?_
                      refine Plan.assign_bool rfl rfl ?_
                      refine Plan.nil ?_
                      refine hK415 _ _ ?_; clear hK415
                      refine W.ret (finR_ret ?_)
                      have h418 := St.pickT (C := [_, _, _, _, _, _]) h410 [] (by decide)
                      simp only [pick, List.filterMap_cons, List.filterMap_nil, List.getElem?_cons_zero, List.getElem?_cons_succ, List.cons_append, List.nil_append] at h418
                      subst r
                      refine RetOk.mk (.tmp_bool rfl .nil) ?_
                      obtain ⟨CF, hx1, hx2⟩ := hFr
                      subst hx1
                      have hdr := St.dropC (N := []) h418
                      exact ⟨rfl, hdr⟩
                    ·
                      replace hR := ifF hR hc417
                      refine Plan.move_bool (b := false) rfl (congrArg Value.bool (Bool.eq_false_iff.2 hc417)) ?_
                      refine Plan.notF rfl rfl ?_
                      refine Plan.pickTb rfl rfl rfl ?_
                      refine Plan.move_bool rfl rfl ?_
                      refine Plan.move_int rfl rfl ?_
                      refine Plan.move_int rfl rfl ?_
                      by_cases hc419 : x_397 = x_220
                      ·
                        replace hR := ifT hR hc419
                        refine Plan.cmpV (a := (((x_397 : Nat) : Int) : Int)) (b := (((x_220 : Nat) : Int) : Int)) (p := x_397 = x_220) (v := true) rfl rfl rfl rfl icmp_eqN (decide_eq_true hc419) ?_
                        refine Plan.pickTb rfl rfl rfl ?_
                        refine Plan.move_bool rfl rfl ?_
                        refine Plan.move_int rfl rfl ?_
                        refine Plan.cmpP (a := (((x_403 : Nat) : Int) : Int)) (b := (122 : Int)) (p := x_403 = 122) rfl rfl rfl rfl icmp_eqN ?_
                        refine Plan.pickTb rfl rfl rfl ?_
                        refine Plan.assign_bool rfl rfl ?_
                        refine Plan.nil ?_
                        refine hK415 _ _ ?_; clear hK415
                        refine W.ret (finR_ret ?_)
                        have h420 := St.pickT (C := [_, _, _, _, _, _]) h410 [] (by decide)
                        simp only [pick, List.filterMap_cons, List.filterMap_nil, List.getElem?_cons_zero, List.getElem?_cons_succ, List.cons_append, List.nil_append] at h420
                        subst r
                        refine RetOk.mk (.tmp_bool rfl .nil) ?_
                        obtain ⟨CF, hx1, hx2⟩ := hFr
                        subst hx1
                        have hdr := St.dropC (N := []) h420
                        exact ⟨rfl, hdr⟩
                      ·
                        replace hR := ifF hR hc419
                        refine Plan.cmpV (a := (((x_397 : Nat) : Int) : Int)) (b := (((x_220 : Nat) : Int) : Int)) (p := x_397 = x_220) (v := false) rfl rfl rfl rfl icmp_eqN (decide_eq_false hc419) ?_
                        refine Plan.pickTb rfl rfl rfl ?_
                        refine Plan.move_bool rfl rfl ?_
                        refine Plan.passed rfl ?_
                        refine Plan.passed rfl ?_
                        refine Plan.pickFb rfl rfl rfl ?_
                        refine Plan.assign_bool rfl rfl ?_
                        refine Plan.nil ?_
                        refine hK415 _ _ ?_; clear hK415
                        refine W.ret (finR_ret ?_)
                        have h421 := St.pickT (C := [_, _, _, _, _, _]) h410 [] (by decide)
                        simp only [pick, List.filterMap_cons, List.filterMap_nil, List.getElem?_cons_zero, List.getElem?_cons_succ, List.cons_append, List.nil_append] at h421
                        subst r
                        refine RetOk.mk (.tmp_bool rfl .nil) ?_
                        obtain ⟨CF, hx1, hx2⟩ := hFr
                        subst hx1
                        have hdr := St.dropC (N := []) h421
                        exact ⟨rfl, hdr⟩
                  ·
                    replace hR := ifF hR hc416
                    refine Plan.cmpV (a := (((x_384 : Nat) : Int) : Int)) (b := (0 : Int)) (p := x_384 = 0) (v := false) rfl rfl rfl rfl icmp_eqN (decide_eq_false hc416) ?_
                    refine Plan.move_bool rfl rfl ?_
                    refine Plan.passed rfl ?_
                    refine Plan.passed rfl ?_
                    refine Plan.pickFb rfl rfl rfl ?_
                    refine Plan.move_bool rfl rfl ?_
                    refine Plan.passed rfl ?_
                    refine Plan.passed rfl ?_
                    refine Plan.passed rfl ?_
                    refine Plan.pickFb rfl rfl rfl ?_
                    refine Plan.move_bool rfl rfl ?_
                    refine Plan.passed rfl ?_
                    refine Plan.passed rfl ?_
                    refine Plan.pickFb rfl rfl rfl ?_
                    refine Plan.assign_bool rfl rfl ?_
                    refine Plan.nil ?_
                    refine hK415 _ _ ?_; clear hK415
                    refine W.ret (finR_ret ?_)
                    have h422 := St.pickT (C := [_, _, _, _, _, _]) h410 [] (by decide)
                    simp only [pick, List.filterMap_cons, List.filterMap_nil, List.getElem?_cons_zero, List.getElem?_cons_succ, List.cons_append, List.nil_append] at h422
                    subst r
                    refine RetOk.mk (.tmp_bool rfl .nil) ?_
                    obtain ⟨CF, hx1, hx2⟩ := hFr
                    subst hx1
                    have hdr := St.dropC (N := []) h422
                    exact ⟨rfl, hdr⟩
              ·
                replace hR := ifF hR hc258
                refine W.condT (congrArg Value.bool (congrArg Bool.not (Bool.eq_false_iff.2 hc258))) ?_
                refine W.seq_k fun K423 hK423 => ?_
                refine W.regionT [(0, true)] (by kernel_rfl) ?_
                refine Plan.assign_bool rfl rfl ?_
                refine Plan.nil ?_
                refine hK423 _ _ ?_; clear hK423
                refine W.ret (thenR_ret (finR_ret ?_))
                have h424 := St.pickT (C := [_, _, _, _, _]) h257 [] (by decide)
                simp only [pick, List.filterMap_cons, List.filterMap_nil, List.getElem?_cons_zero, List.getElem?_cons_succ, List.cons_append, List.nil_append] at h424
                subst r
                refine RetOk.mk (.tmp_bool rfl .nil) ?_
                obtain ⟨CF, hx1, hx2⟩ := hFr
                subst hx1
                have hdr := St.dropC (N := []) h424
                exact ⟨rfl, hdr⟩
        ·
          replace hR := ifF hR hc246
          refine Plan.move_bool (b := false) rfl (congrArg Value.bool (Bool.eq_false_iff.2 hc246)) ?_
          refine Plan.notF rfl rfl ?_
          refine Plan.pickFb rfl rfl rfl ?_
          refine Plan.move_bool rfl rfl ?_
          refine Plan.passed rfl ?_
          refine Plan.passed rfl ?_
          refine Plan.pickTb rfl rfl rfl ?_
          refine Plan.move_bool rfl rfl ?_
          refine Plan.passed rfl ?_
          refine Plan.passed rfl ?_
          refine Plan.passed rfl ?_
          refine Plan.passed rfl ?_
          refine Plan.pickTb rfl rfl rfl ?_
          refine Plan.move_bool rfl rfl ?_
          refine Plan.passed rfl ?_
          refine Plan.passed rfl ?_
          refine Plan.passed rfl ?_
          refine Plan.passed rfl ?_
          refine Plan.passed rfl ?_
          refine Plan.passed rfl ?_
          refine Plan.passed rfl ?_
          refine Plan.passed rfl ?_
          refine Plan.passed rfl ?_
          refine Plan.pickTb rfl rfl rfl ?_
          refine Plan.nil ?_
          refine hK241 _ _ ?_; clear hK241
          refine W.condT rfl ?_
          refine W.seq_k fun K425 hK425 => ?_
          refine W.regionT [(0, true)] (by kernel_rfl) ?_
          refine Plan.assign_bool rfl rfl ?_
          refine Plan.nil ?_
          refine hK425 _ _ ?_; clear hK425
          refine W.ret (thenR_ret (finR_ret ?_))
          have h426 := St.pickT (C := [_, _, _, _, _]) h242 [] (by decide)
          simp only [pick, List.filterMap_cons, List.filterMap_nil, List.getElem?_cons_zero, List.getElem?_cons_succ, List.cons_append, List.nil_append] at h426
          subst r
          refine RetOk.mk (.tmp_bool rfl .nil) ?_
          obtain ⟨CF, hx1, hx2⟩ := hFr
          subst hx1
          have hdr := St.dropC (N := []) h426
          exact ⟨rfl, hdr⟩

end Go.Proofs.Ytbkgblhmlenocaa
