/-
  WALKS of the package's functions, printed by this session's own program (auto.py).
-/
import Derived.Test.YtbkgblhmlenocaaProg
import Derived.Test.YtbkgblhmlenocaaEb
import Derived.Test.YtbkgblhmlenocaaRPackLayout
import Derived.Test.YtbkgblhmlenocaaEls
import Derived.Test.YtbkgblhmlenocaaWLaw11
import Derived.Test.YtbkgblhmlenocaaWPack
namespace Go.Proofs.Ytbkgblhmlenocaa
set_option linter.unusedSimpArgs false
set_option linter.unusedVariables false
set_option linter.unusedSectionVars false
open Go Go.LW
theorem FPackLayout.isl22 : ∃ el, Try.prog.underlying 22 = some (.slice el) := ⟨25, by kernel_rfl⟩
theorem FPackLayout.sl22 : slB Try.prog 22 3 = true := by kernel_rfl
theorem FPackLayout.agg25 : aggT Try.prog 25 3 = true := by kernel_rfl
theorem FPackLayout.z25 : zeroIs Try.prog 25 [(1, fun _ => .int .i64 0), (1, fun _ => .slice none 0 0), (1, fun _ => .slice none 0 0)] := zeroIs_agg (by kernel_rfl)
theorem FPackLayout.fld25_0 : fieldB Try.prog 25 0 0 = true := by kernel_rfl
theorem FPackLayout.sc3 : scalarT Try.prog 3 = true := by kernel_rfl
theorem FPackLayout.fld25_1 : fieldB Try.prog 25 1 1 = true := by kernel_rfl
theorem FPackLayout.sc23 : scalarT Try.prog 23 = true := by kernel_rfl
theorem FPackLayout.sz25 : szT Try.prog 25 3 = true := by kernel_rfl
theorem FPackLayout.call15 : callB Try.prog 15 = true := by kernel_rfl
theorem FPackLayout.call14 : callB Try.prog 14 = true := by kernel_rfl
theorem FPackLayout.isl43 : ∃ el, Try.prog.underlying 43 = some (.slice el) := ⟨3, by kernel_rfl⟩
theorem FPackLayout.sl43 : slB Try.prog 43 1 = true := by kernel_rfl
theorem FPackLayout.call19 : callB Try.prog 19 = true := by kernel_rfl
theorem FPackLayout.call20 : callB Try.prog 20 = true := by kernel_rfl
theorem FPackLayout.call21 : callB Try.prog 21 = true := by kernel_rfl
theorem FPackLayout.call26 : callB Try.prog 26 = true := by kernel_rfl
theorem FPackLayout.call25 : callB Try.prog 25 = true := by kernel_rfl
theorem FPackLayout.call27 : callB Try.prog 27 = true := by kernel_rfl
theorem FPackLayout.call28 : callB Try.prog 28 = true := by kernel_rfl

set_option maxRecDepth 8000 in
set_option maxHeartbeats 1000000 in
theorem lethelaw11_PackLayout_ok {B : Nat} {w0 w : World} {L : List Rg} {l_1 : List (Int × (List Byte) × (List Byte))} {al_1 : Option Addr} {nl_1 cl_1 il_1 : Nat} (hl_1 : LV (D25.at L) L il_1 al_1 nl_1 cl_1 l_1) {goneTable2 : Int} {goneKey3 : List Byte} {agoneKey3 : Option Addr} {ngoneKey3 cgoneKey3 igoneKey3 : Nat} (hgoneKey3 : Bx L igoneKey3 agoneKey3 ngoneKey3 cgoneKey3 goneKey3) {goneValue4 : List Byte} {agoneValue4 : Option Addr} {ngoneValue4 cgoneValue4 igoneValue4 : Nat} (hgoneValue4 : Bx L igoneValue4 agoneValue4 ngoneValue4 cgoneValue4 goneValue4) {r : Bool} (hR : lethelaw11_PackLayout l_1 goneTable2 goneKey3 goneValue4 r) (HST : St B w0 (L) w) :
    Calls Try.prog 5 #[.slice al_1 nl_1 cl_1, AG [(1, fun _ => .int .i64 goneTable2), (1, fun _ => .slice agoneKey3 ngoneKey3 cgoneKey3), (1, fun _ => .slice agoneValue4 ngoneValue4 cgoneValue4)]] w fun e w' => e = .returned (.bool r) ∧ St B w0 (L) w' := by
  refine W.enter 151 Try.func5 rfl rfl rfl ?_
  unfold lethelaw11_PackLayout at hR
  have hFr : Fr2 L L L L := Fr2.refl _ _
  have el_1 := hl_1.hl; subst el_1
  have egoneKey3 := hgoneKey3.hl; subst egoneKey3
  have egoneValue4 := hgoneValue4.hl; subst egoneValue4
  refine W.seq_k fun K5 hK5 => ?_
  refine W.regionT [(0, false), (1, true)] (by kernel_rfl) ?_
  refine Plan.boxA HST rfl rfl PIn.nil fun b6 w6 hb6 h6 => ?_
  simp only [rngs, Nat.zero_add, Nat.reduceAdd, List.cons_append, List.nil_append] at h6
  refine Plan.assign_bool rfl rfl ?_
  refine Plan.nil ?_
  refine hK5 _ _ ?_; clear hK5
  refine W.seq_k fun K7 hK7 => ?_
  refine W.regionT [(0, true), (1, false), (2, true)] (by kernel_rfl) ?_
  refine Plan.move_slice rfl rfl ?_
  obtain ⟨x_9, hr8, hR⟩ := hR
  refine Plan.call (vs := [.slice al_1 l_1.length cl_1]) rfl FPackLayout.call14 rfl (lethelaw11_sorted_ok (LP := L) (by exact fun r hr => List.mem_append_right [_, _, _] ((fun _ h => h) r hr)) (by exact (hl_1.app [_, _, _])) hr8 h6) ?_
  rintro _ w15 ⟨C15, ay0_10, py0_11, ny0_12, cy0_13, Fy0_14, rfl, h15, hf15_0⟩
  replace h15 := St.pool (N := [_]) (R := [_, _, _]) h15
  obtain ⟨L, hL16⟩ : ∃ X, X = C15 ++ L := ⟨_, rfl⟩
  have h16 := St.re (N := [_, _, _, _]) hL16 h15
  simp only [List.cons_append, List.nil_append] at h16
  replace hFr : Fr2 _ _ L L := hFr.step hL16 hL16
  obtain ⟨ix17, hv17⟩ : ∃ i, LV (D25.at L) L i al_1 l_1.length cl_1 l_1 := ⟨_, by rw [hL16]; exact (LV.grow D25_lifts (fun r hr => List.mem_append_right _ hr) hl_1).app _⟩
  obtain ⟨ix18, hv18⟩ : ∃ i, Bx L i agoneKey3 goneKey3.length cgoneKey3 goneKey3 := ⟨_, by rw [hL16]; exact hgoneKey3.app _⟩
  obtain ⟨ix19, hv19⟩ : ∃ i, Bx L i agoneValue4 goneValue4.length cgoneValue4 goneValue4 := ⟨_, by rw [hL16]; exact hgoneValue4.app _⟩
  obtain rfl := hf15_0.hl
  have hd15_0 : LO (D25.at L) [] ay0_10 py0_11 (x_9).length cy0_13 Fy0_14 x_9 := LO.grow D25_lifts (fun r hr => (by rw [hL16]; exact hr)) hf15_0
  refine ⟨_, rfl, .inl ⟨PIn.keep PIn.nil h16, ?_⟩⟩
  refine Plan.assign_slice rfl rfl ?_
  refine Plan.nil ?_
  refine hK7 _ _ ?_; clear hK7
  refine W.seq_k fun K20 hK20 => ?_
  refine W.regionT [(0, true), (1, false), (2, true), (3, true), (4, true), (5, true), (6, true)] (by kernel_rfl) ?_
  refine Plan.move_slice rfl rfl ?_
  obtain ⟨x_22, x_23, hr21, hR⟩ := hR
  refine Plan.call (vs := [.slice ay0_10 x_9.length cy0_13]) rfl FPackLayout.call25 rfl (pack_Pack_ok (by exact (LV.grow D25_lifts (fun r hr => List.mem_append_right [_, _, _, _] ((fun _ h => h) r hr)) (LO.lvf EL.at_flat hd15_0 0 rfl))) hr21 h16) ?_
  rintro _ w29 ⟨ay0_24, py0_25, ny0_26, cy0_27, Fy0_28, rfl, h29, hf29_0⟩
  try dsimp only at hf29_0
  obtain rfl := hf29_0.hl
  refine ⟨_, rfl, .inl ⟨PIn.keep PIn.nil h29, ?_⟩⟩
  refine Plan.move_tuple rfl rfl ?_
  refine Plan.extract_slice rfl rfl rfl ?_
  refine Plan.extract_int rfl rfl rfl ?_
  refine Plan.assign_slice rfl rfl ?_
  refine Plan.assign_int rfl rfl ?_
  refine Plan.nil ?_
  refine hK20 _ _ ?_; clear hK20
  refine W.seq_k fun K30 hK30 => ?_
  refine W.seq_k fun K31 hK31 => ?_
  refine W.regionT [(0, true), (1, true)] (by kernel_rfl) ?_
  refine Plan.move_int rfl rfl ?_
  refine Plan.cmpP (a := (((x_23 : Nat) : Int) : Int)) (b := (0 : Int)) (p := x_23 ≠ 0) rfl rfl rfl rfl icmp_neN ?_
  refine Plan.nil ?_
  refine hK31 _ _ ?_; clear hK31
  by_cases hc32 : x_23 ≠ 0
  ·
    replace hR := ifT hR hc32
    refine W.condT (congrArg Value.bool (decide_eq_true hc32)) ?_
    refine W.seq_k fun K33 hK33 => ?_
    refine W.regionT [(0, true)] (by kernel_rfl) ?_
    refine Plan.assign_bool rfl rfl ?_
    refine Plan.nil ?_
    refine hK33 _ _ ?_; clear hK33
    refine W.ret (thenR_ret (finR_ret ?_))
    have h34 := St.pickT (C := [_, _, _, _, _]) h29 [] (by decide)
    simp only [pick, List.filterMap_cons, List.filterMap_nil, List.getElem?_cons_zero, List.getElem?_cons_succ, List.cons_append, List.nil_append] at h34
    subst r
    refine RetOk.mk (.tmp_bool rfl .nil) ?_
    obtain ⟨CF, hx1, hx2⟩ := hFr
    subst hx1
    have hdr := St.dropC (N := []) h34
    exact ⟨rfl, hdr⟩
  ·
    replace hR := ifF hR hc32
    refine W.condF (congrArg Value.bool (decide_eq_false hc32)) ?_
    refine W.skip ?_
    refine hK30 _ _ ?_; clear hK30
    refine W.seq_k fun K35 hK35 => ?_
    refine W.regionT [(0, true)] (by kernel_rfl) ?_
    refine Plan.assign_int rfl rfl ?_
    refine Plan.nil ?_
    refine hK35 _ _ ?_; clear hK35
    refine W.seq_k fun K36 hK36 => ?_
    refine W.seq_k fun K37 hK37 => ?_
    refine W.regionT [(0, true)] (by kernel_rfl) ?_
    refine Plan.assign_int rfl rfl ?_
    refine Plan.nil ?_
    refine hK37 _ _ ?_; clear hK37
    obtain ⟨x224, hI224, hR0224⟩ := hR
    refine W.cutN (fun e w => ∃ y_at_223 : Nat, x224 = some y_at_223 ∧ EnvHas e [(3, .pointer (some ⟨b6, 0, none⟩)), (5, .slice ay0_10 x_9.length cy0_13), (6, .slice ay0_24 x_22.length cy0_27), (8, VN y_at_223)] ∧ St B w0 (⟨py0_25, 0, cy0_27 * 1, Fy0_28, true⟩ :: ⟨py0_11, 0, cy0_13 * 3, Fy0_14, true⟩ :: ⟨some b6, 0, 1, fun _ => .int .i64 goneTable2, true⟩ :: ⟨some b6, 1, 1, fun _ => .slice agoneKey3 goneKey3.length cgoneKey3, true⟩ :: ⟨some b6, 2, 1, fun _ => .slice agoneValue4 goneValue4.length cgoneValue4, true⟩ :: L) w) ?_ ?_
    ·
      refine W.block ?_
      refine W.iter hI224 (fun (s224 : (Nat × Nat)) e w => EnvHas e [(3, .pointer (some ⟨b6, 0, none⟩)), (5, .slice ay0_10 x_9.length cy0_13), (6, .slice ay0_24 x_22.length cy0_27), (8, VN s224.1), (9, VN s224.2)] ∧ St B w0 (⟨py0_25, 0, cy0_27 * 1, Fy0_28, true⟩ :: ⟨py0_11, 0, cy0_13 * 3, Fy0_14, true⟩ :: ⟨some b6, 0, 1, fun _ => .int .i64 goneTable2, true⟩ :: ⟨some b6, 1, 1, fun _ => .slice agoneKey3 goneKey3.length cgoneKey3, true⟩ :: ⟨some b6, 2, 1, fun _ => .slice agoneValue4 goneValue4.length cgoneValue4, true⟩ :: L) w) ⟨(EnvHas.cons rfl (EnvHas.cons rfl (EnvHas.cons rfl (EnvHas.cons rfl (EnvHas.cons rfl EnvHas.nil))))), h29⟩ ?_
      rintro ⟨at_221, i_222⟩ o224 hR hx224 ev225 wl225 ⟨he225, h225⟩
      obtain ⟨ev225, rfl⟩ := he225.open
      unfold lethelaw11_PackLayout_l0 at hR
      refine W.seq_k fun K226 hK226 => ?_
      refine W.seq_k fun K227 hK227 => ?_
      refine W.regionT [(0, true), (1, true), (2, true), (3, true)] (by kernel_rfl) ?_
      refine Plan.move_int rfl rfl ?_
      refine Plan.move_slice rfl rfl ?_
      refine Plan.len FPackLayout.isl43 rfl rfl ?_
      refine Plan.cmpP (a := (((i_222 : Nat) : Int) : Int)) (b := (((x_22.length : Nat) : Int) : Int)) (p := i_222 < x_22.length) rfl rfl rfl rfl icmp_ltN ?_
      refine Plan.nil ?_
      refine hK227 _ _ ?_; clear hK227
      by_cases hc228 : i_222 < x_22.length
      ·
        replace hR := ifT hR hc228
        refine W.condT (congrArg Value.bool (decide_eq_true hc228)) ?_
        refine W.skip ?_
        refine hK226 _ _ ?_; clear hK226
        refine W.seq_k fun K229 hK229 => ?_
        refine W.block ?_
        refine W.seq_k fun K230 hK230 => ?_
        refine W.regionT [(0, true)] (by kernel_rfl) ?_
        refine Plan.assign_int rfl rfl ?_
        refine Plan.nil ?_
        refine hK230 _ _ ?_; clear hK230
        refine W.seq_k fun K231 hK231 => ?_
        refine W.seq_k fun K232 hK232 => ?_
        refine W.regionT [(0, true)] (by kernel_rfl) ?_
        refine Plan.assign_int rfl rfl ?_
        refine Plan.nil ?_
        refine hK232 _ _ ?_; clear hK232
        obtain ⟨x278, hI278, hR0278⟩ := hR
        refine W.cutN (fun e w => ∃ y_at_276 : Nat, ∃ y_size277 : Nat, x278 = some (y_at_276, y_size277) ∧ EnvHas e [(3, .pointer (some ⟨b6, 0, none⟩)), (5, .slice ay0_10 x_9.length cy0_13), (6, .slice ay0_24 x_22.length cy0_27), (8, VN y_at_276), (9, VN i_222), (10, VN y_size277)] ∧ St B w0 (⟨py0_25, 0, cy0_27 * 1, Fy0_28, true⟩ :: ⟨py0_11, 0, cy0_13 * 3, Fy0_14, true⟩ :: ⟨some b6, 0, 1, fun _ => .int .i64 goneTable2, true⟩ :: ⟨some b6, 1, 1, fun _ => .slice agoneKey3 goneKey3.length cgoneKey3, true⟩ :: ⟨some b6, 2, 1, fun _ => .slice agoneValue4 goneValue4.length cgoneValue4, true⟩ :: L) w) ?_ ?_
        ·
          refine W.block ?_
          refine W.iter hI278 (fun (s278 : (Nat × Nat × Nat)) e w => EnvHas e [(3, .pointer (some ⟨b6, 0, none⟩)), (5, .slice ay0_10 x_9.length cy0_13), (6, .slice ay0_24 x_22.length cy0_27), (8, VN s278.1), (9, VN i_222), (10, VN s278.2.1), (11, VN s278.2.2)] ∧ St B w0 (⟨py0_25, 0, cy0_27 * 1, Fy0_28, true⟩ :: ⟨py0_11, 0, cy0_13 * 3, Fy0_14, true⟩ :: ⟨some b6, 0, 1, fun _ => .int .i64 goneTable2, true⟩ :: ⟨some b6, 1, 1, fun _ => .slice agoneKey3 goneKey3.length cgoneKey3, true⟩ :: ⟨some b6, 2, 1, fun _ => .slice agoneValue4 goneValue4.length cgoneValue4, true⟩ :: L) w) ⟨(EnvHas.cons rfl (EnvHas.cons rfl (EnvHas.cons rfl (EnvHas.cons rfl (EnvHas.cons rfl (EnvHas.cons rfl (EnvHas.cons rfl EnvHas.nil))))))), h225⟩ ?_
          rintro ⟨at_273, size274, k275⟩ o278 hR hx278 ev279 wl279 ⟨he279, h279⟩
          obtain ⟨ev279, rfl⟩ := he279.open
          unfold lethelaw11_PackLayout_l1 at hR
          refine W.seq_k fun K280 hK280 => ?_
          refine W.seq_k fun K281 hK281 => ?_
          refine W.regionT [(0, true), (1, true), (2, true), (3, true), (4, true), (5, true)] (by kernel_rfl) ?_
          refine Plan.move_int rfl rfl ?_
          refine Plan.move_slice rfl rfl ?_
          refine Plan.move_int rfl rfl ?_
          obtain ⟨hc282, hR⟩ := hR
          refine Plan.idxLVS (D := D3) (j := i_222) h279 (LO.lvf D3_flat hf29_0 0 rfl) FPackLayout.sl43 rfl rfl rfl hc282 ?_
          refine Plan.loadLV1 (D := D3) (X := x_22) (j := i_222) h279 (0 : Int) (fun _ x => .int .i64 x) (LO.lvf D3_flat hf29_0 0 rfl) rfl rfl hc282 rfl (fun _ _ => rfl) FPackLayout.sc3 fun b283 r283 hs283 hr283 => ?_
          refine Plan.cmpP (a := (((k275 : Nat) : Int) : Int)) (b := ((x_22.getD i_222 (0 : Int)) : Int)) (p := ((k275 : Nat) : Int) < (x_22.getD i_222 (0 : Int))) rfl rfl rfl rfl icmp_lt ?_
          refine Plan.nil ?_
          refine hK281 _ _ ?_; clear hK281
          by_cases hc284 : ((k275 : Nat) : Int) < (x_22.getD i_222 (0 : Int))
          ·
            replace hR := ifT hR hc284
            refine W.condT (congrArg Value.bool (decide_eq_true hc284)) ?_
            refine W.skip ?_
            refine hK280 _ _ ?_; clear hK280
            refine W.seq_k fun K285 hK285 => ?_
            refine W.block ?_
            refine W.seq_k fun K286 hK286 => ?_
            refine W.seq_k fun K287 hK287 => ?_
            refine W.regionT [(0, true), (1, true), (2, true), (3, true)] (by kernel_rfl) ?_
            refine Plan.move_int rfl rfl ?_
            refine Plan.move_slice rfl rfl ?_
            refine Plan.len FPackLayout.isl22 rfl rfl ?_
            refine Plan.cmpP (a := (((at_273 : Nat) : Int) : Int)) (b := (((x_9.length : Nat) : Int) : Int)) (p := x_9.length ≤ at_273) rfl rfl rfl rfl icmp_geN ?_
            refine Plan.nil ?_
            refine hK287 _ _ ?_; clear hK287
            by_cases hc288 : x_9.length ≤ at_273
            ·
              replace hR := ifT hR hc288
              refine W.condT (congrArg Value.bool (decide_eq_true hc288)) ?_
              refine W.seq_k fun K289 hK289 => ?_
              refine W.regionT [(0, true)] (by kernel_rfl) ?_
              refine Plan.assign_bool rfl rfl ?_
              refine Plan.nil ?_
              refine hK289 _ _ ?_; clear hK289
              refine W.ret (thenR_ret (blockR_ret (thenR_ret (iterR_ret (blockR_ret (thenR_ret (thenR_ret (blockR_ret (thenR_ret (iterR_ret (blockR_ret (thenR_ret (thenR_ret (finR_ret ?_))))))))))))))
              have h290 := St.pickT (C := [_, _, _, _, _]) h279 [] (by decide)
              simp only [pick, List.filterMap_cons, List.filterMap_nil, List.getElem?_cons_zero, List.getElem?_cons_succ, List.cons_append, List.nil_append] at h290
              replace hR := hR.2
              replace hR := hR.2
              subst r
              refine RetOk.mk (.tmp_bool rfl .nil) ?_
              obtain ⟨CF, hx1, hx2⟩ := hFr
              subst hx1
              have hdr := St.dropC (N := []) h290
              exact ⟨rfl, hdr⟩
            ·
              replace hR := ifF hR hc288
              refine W.condF (congrArg Value.bool (decide_eq_false hc288)) ?_
              refine W.skip ?_
              refine hK286 _ _ ?_; clear hK286
              refine W.seq_k fun K291 hK291 => ?_
              refine W.regionT [(0, true), (1, true), (2, true), (3, true), (4, true), (5, false), (6, true), (7, true)] (by kernel_rfl) ?_
              refine Plan.move_int rfl rfl ?_
              refine Plan.move_slice rfl rfl ?_
              refine Plan.move_int rfl rfl ?_
              obtain ⟨hc292, hR⟩ := hR
              refine Plan.idxLVS (D := (D25.at L)) (j := at_273) h279 (LO.lvf EL.at_flat hd15_0 1 rfl) FPackLayout.sl22 rfl rfl rfl hc292 ?_
              refine Plan.loadLV (D := (D25.at L)) (X := x_9) (j := at_273) (sz := 3) h279 ((0 : Int), ([] : List Byte), ([] : List Byte)) (LO.lvf EL.at_flat hd15_0 1 rfl) rfl rfl hc292 rfl FPackLayout.agg25 fun b293 r293 hs293 hr293 => ?_
              obtain ⟨⟨i293_1, hv293_1⟩, ⟨i293_2, hv293_2⟩⟩ := hs293
              obtain ⟨x_295, hr294, hR⟩ := hR
              refine Plan.call (vs := [AG [(1, fun _ => .int .i64 ((x_9.getD at_273 ((0 : Int), ([] : List Byte), ([] : List Byte))).1)), (1, fun _ => .slice ((b293.1).1) (((x_9.getD at_273 ((0 : Int), ([] : List Byte), ([] : List Byte))).2.1).length) ((b293.1).2)), (1, fun _ => .slice ((b293.2).1) (((x_9.getD at_273 ((0 : Int), ([] : List Byte), ([] : List Byte))).2.2).length) ((b293.2).2))]]) rfl FPackLayout.call26 rfl (pack_Size_ok (hv293_1.app [_, _, _, _, _]) (hv293_2.app [_, _, _, _, _]) hr294 h279) ?_
              rintro _ w296 ⟨rfl, h296⟩
              refine ⟨_, rfl, .inr ⟨rfl, ?_⟩⟩
              obtain ⟨hc297, hR⟩ := hR
              refine Plan.addN (a := size274) (b := x_295) rfl rfl rfl (by omega) ?_
              refine Plan.assign_int rfl rfl ?_
              refine Plan.nil ?_
              refine hK291 _ _ ?_; clear hK291
              refine W.regionT [(0, true), (1, true), (2, true)] (by kernel_rfl) ?_
              refine Plan.move_int rfl rfl ?_
              obtain ⟨hc298, hR⟩ := hR
              refine Plan.addN (a := at_273) (b := 1) rfl rfl rfl (by omega) ?_
              refine Plan.assign_int rfl rfl ?_
              refine Plan.nil ?_
              refine blockR_norm ?_
              refine hK285 _ _ ?_; clear hK285
              refine W.regionT [(0, true), (1, true), (2, true)] (by kernel_rfl) ?_
              refine Plan.move_int rfl rfl ?_
              obtain ⟨hc299, hR⟩ := hR
              refine Plan.addN (a := k275) (b := 1) rfl rfl rfl (by omega) ?_
              refine Plan.assign_int rfl rfl ?_
              refine Plan.nil ?_
              exact iterR_norm ⟨_, hR, (EnvHas.cons rfl (EnvHas.cons rfl (EnvHas.cons rfl (EnvHas.cons rfl (EnvHas.cons rfl (EnvHas.cons rfl (EnvHas.cons rfl EnvHas.nil))))))), h296⟩
          ·
            replace hR := ifF hR hc284
            refine W.condF (congrArg Value.bool (decide_eq_false hc284)) ?_
            refine W.exit (thenR_exit (iterR_exit (blockR_here ?_)))
            exact ⟨at_273, size274, (hx278 _ hR).symm, (EnvHas.cons rfl (EnvHas.cons rfl (EnvHas.cons rfl (EnvHas.cons rfl (EnvHas.cons rfl (EnvHas.cons rfl EnvHas.nil)))))), h279⟩
        ·
          rintro ev300 wl300 ⟨y_at_276, y_size277, hy300, he300, h300⟩
          obtain ⟨ev300, rfl⟩ := he300.open
          replace hR := hR0278 y_at_276 y_size277 hy300
          obtain ⟨at_276, e_at_276⟩ : ∃ z, z = y_at_276 := ⟨_, rfl⟩; subst e_at_276
          obtain ⟨size277, e_size277⟩ : ∃ z, z = y_size277 := ⟨_, rfl⟩; subst e_size277
          refine hK231 _ _ ?_; clear hK231
          refine W.seq_k fun K301 hK301 => ?_
          refine W.regionT [(0, true), (1, true), (2, true), (3, true), (4, true), (5, true), (6, true), (7, true), (8, true), (9, true), (10, true), (11, true), (12, true), (13, true), (14, true), (15, true), (16, true), (17, true), (18, true), (19, true), (20, false), (21, true), (22, true), (23, true), (24, true)] (by kernel_rfl) ?_
          refine Plan.move_int rfl rfl ?_
          by_cases hc302 : 1008 < size277
          ·
            replace hR := ifT hR hc302
            refine Plan.cmpV (a := (((size277 : Nat) : Int) : Int)) (b := (1008 : Int)) (p := 1008 < size277) (v := true) rfl rfl rfl rfl icmp_gtN (decide_eq_true hc302) ?_
            refine Plan.move_bool rfl rfl ?_
            refine Plan.passed rfl ?_
            refine Plan.passed rfl ?_
            refine Plan.passed rfl ?_
            refine Plan.passed rfl ?_
            refine Plan.passed rfl ?_
            refine Plan.pickTb rfl rfl rfl ?_
            refine Plan.move_bool rfl rfl ?_
            refine Plan.passed rfl ?_
            refine Plan.passed rfl ?_
            refine Plan.passed rfl ?_
            refine Plan.passed rfl ?_
            refine Plan.passed rfl ?_
            refine Plan.passed rfl ?_
            refine Plan.passed rfl ?_
            refine Plan.passed rfl ?_
            refine Plan.passed rfl ?_
            refine Plan.passed rfl ?_
            refine Plan.passed rfl ?_
            refine Plan.passed rfl ?_
            refine Plan.passed rfl ?_
            refine Plan.passed rfl ?_
            refine Plan.pickTb rfl rfl rfl ?_
            refine Plan.nil ?_
            refine hK301 _ _ ?_; clear hK301
            refine W.condT rfl ?_
            refine W.seq_k fun K303 hK303 => ?_
            refine W.regionT [(0, true)] (by kernel_rfl) ?_
            refine Plan.assign_bool rfl rfl ?_
            refine Plan.nil ?_
            refine hK303 _ _ ?_; clear hK303
            refine W.ret (blockR_ret (thenR_ret (iterR_ret (blockR_ret (thenR_ret (thenR_ret (finR_ret ?_)))))))
            have h304 := St.pickT (C := [_, _, _, _, _]) h300 [] (by decide)
            simp only [pick, List.filterMap_cons, List.filterMap_nil, List.getElem?_cons_zero, List.getElem?_cons_succ, List.cons_append, List.nil_append] at h304
            replace hR := hR.2
            subst r
            refine RetOk.mk (.tmp_bool rfl .nil) ?_
            obtain ⟨CF, hx1, hx2⟩ := hFr
            subst hx1
            have hdr := St.dropC (N := []) h304
            exact ⟨rfl, hdr⟩
          ·
            replace hR := ifF hR hc302
            refine Plan.cmpV (a := (((size277 : Nat) : Int) : Int)) (b := (1008 : Int)) (p := 1008 < size277) (v := false) rfl rfl rfl rfl icmp_gtN (decide_eq_false hc302) ?_
            refine Plan.move_bool rfl rfl ?_
            refine Plan.move_slice rfl rfl ?_
            refine Plan.move_int rfl rfl ?_
            obtain ⟨hc305, hR⟩ := hR
            refine Plan.idxLVS (D := D3) (j := i_222) h300 (LO.lvf D3_flat hf29_0 0 rfl) FPackLayout.sl43 rfl rfl rfl hc305 ?_
            refine Plan.loadLV1 (D := D3) (X := x_22) (j := i_222) h300 (0 : Int) (fun _ x => .int .i64 x) (LO.lvf D3_flat hf29_0 0 rfl) rfl rfl hc305 rfl (fun _ _ => rfl) FPackLayout.sc3 fun b306 r306 hs306 hr306 => ?_
            by_cases hc307 : (x_22.getD i_222 (0 : Int)) < 1
            ·
              replace hR := ifT hR hc307
              refine Plan.cmpV (a := ((x_22.getD i_222 (0 : Int)) : Int)) (b := (1 : Int)) (p := (x_22.getD i_222 (0 : Int)) < 1) (v := true) rfl rfl rfl rfl icmp_lt (decide_eq_true hc307) ?_
              refine Plan.pickFb rfl rfl rfl ?_
              refine Plan.move_bool rfl rfl ?_
              refine Plan.passed rfl ?_
              refine Plan.passed rfl ?_
              refine Plan.passed rfl ?_
              refine Plan.passed rfl ?_
              refine Plan.passed rfl ?_
              refine Plan.passed rfl ?_
              refine Plan.passed rfl ?_
              refine Plan.passed rfl ?_
              refine Plan.passed rfl ?_
              refine Plan.passed rfl ?_
              refine Plan.passed rfl ?_
              refine Plan.passed rfl ?_
              refine Plan.passed rfl ?_
              refine Plan.passed rfl ?_
              refine Plan.pickTb rfl rfl rfl ?_
              refine Plan.nil ?_
              refine hK301 _ _ ?_; clear hK301
              refine W.condT rfl ?_
              refine W.seq_k fun K308 hK308 => ?_
              refine W.regionT [(0, true)] (by kernel_rfl) ?_
              refine Plan.assign_bool rfl rfl ?_
              refine Plan.nil ?_
              refine hK308 _ _ ?_; clear hK308
              refine W.ret (blockR_ret (thenR_ret (iterR_ret (blockR_ret (thenR_ret (thenR_ret (finR_ret ?_)))))))
              have h309 := St.pickT (C := [_, _, _, _, _]) h300 [] (by decide)
              simp only [pick, List.filterMap_cons, List.filterMap_nil, List.getElem?_cons_zero, List.getElem?_cons_succ, List.cons_append, List.nil_append] at h309
              replace hR := hR.2
              subst r
              refine RetOk.mk (.tmp_bool rfl .nil) ?_
              obtain ⟨CF, hx1, hx2⟩ := hFr
              subst hx1
              have hdr := St.dropC (N := []) h309
              exact ⟨rfl, hdr⟩
            ·
              replace hR := ifF hR hc307
              refine Plan.cmpV (a := ((x_22.getD i_222 (0 : Int)) : Int)) (b := (1 : Int)) (p := (x_22.getD i_222 (0 : Int)) < 1) (v := false) rfl rfl rfl rfl icmp_lt (decide_eq_false hc307) ?_
              refine Plan.pickFb rfl rfl rfl ?_
              refine Plan.move_bool rfl rfl ?_
              refine Plan.move_int rfl rfl ?_
              refine Plan.move_slice rfl rfl ?_
              refine Plan.len FPackLayout.isl22 rfl rfl ?_
              by_cases hc310 : at_276 < x_9.length
              ·
                replace hR := ifT hR hc310
                refine Plan.cmpV (a := (((at_276 : Nat) : Int) : Int)) (b := (((x_9.length : Nat) : Int) : Int)) (p := at_276 < x_9.length) (v := true) rfl rfl rfl rfl icmp_ltN (decide_eq_true hc310) ?_
                refine Plan.move_bool rfl rfl ?_
                refine Plan.move_int rfl rfl ?_
                refine Plan.move_slice rfl rfl ?_
                refine Plan.move_int rfl rfl ?_
                obtain ⟨hc311, hR⟩ := hR
                refine Plan.idxLVS (D := (D25.at L)) (j := at_276) h300 (LO.lvf EL.at_flat hd15_0 1 rfl) FPackLayout.sl22 rfl rfl rfl hc311 ?_
                refine Plan.loadLV (D := (D25.at L)) (X := x_9) (j := at_276) (sz := 3) h300 ((0 : Int), ([] : List Byte), ([] : List Byte)) (LO.lvf EL.at_flat hd15_0 1 rfl) rfl rfl hc311 rfl FPackLayout.agg25 fun b312 r312 hs312 hr312 => ?_
                obtain ⟨⟨i312_1, hv312_1⟩, ⟨i312_2, hv312_2⟩⟩ := hs312
                obtain ⟨x_314, hr313, hR⟩ := hR
                refine Plan.call (vs := [AG [(1, fun _ => .int .i64 ((x_9.getD at_276 ((0 : Int), ([] : List Byte), ([] : List Byte))).1)), (1, fun _ => .slice ((b312.1).1) (((x_9.getD at_276 ((0 : Int), ([] : List Byte), ([] : List Byte))).2.1).length) ((b312.1).2)), (1, fun _ => .slice ((b312.2).1) (((x_9.getD at_276 ((0 : Int), ([] : List Byte), ([] : List Byte))).2.2).length) ((b312.2).2))]]) rfl FPackLayout.call26 rfl (pack_Size_ok (hv312_1.app [_, _, _, _, _]) (hv312_2.app [_, _, _, _, _]) hr313 h300) ?_
                rintro _ w315 ⟨rfl, h315⟩
                refine ⟨_, rfl, .inl ⟨PIn.keep (PIn.cons 1 hr312 (PIn.cons 0 hr306 PIn.nil)) h315, ?_⟩⟩
                obtain ⟨hc316, hR⟩ := hR
                refine Plan.addN (a := size277) (b := x_314) rfl rfl rfl (by omega) ?_
                refine Plan.cmpP (a := ((((size277 + x_314) : Nat) : Int) : Int)) (b := (1008 : Int)) (p := (size277 + x_314) ≤ 1008) rfl rfl rfl rfl icmp_leN ?_
                refine Plan.pickTb rfl rfl rfl ?_
                refine Plan.pickFb rfl rfl rfl ?_
                refine Plan.nil ?_
                refine hK301 _ _ ?_; clear hK301
                by_cases hc317 : (size277 + x_314) ≤ 1008
                ·
                  replace hR := ifT hR hc317
                  refine W.condT (congrArg Value.bool (decide_eq_true hc317)) ?_
                  refine W.seq_k fun K318 hK318 => ?_
                  refine W.regionT [(0, true)] (by kernel_rfl) ?_
                  refine Plan.assign_bool rfl rfl ?_
                  refine Plan.nil ?_
                  refine hK318 _ _ ?_; clear hK318
                  refine W.ret (blockR_ret (thenR_ret (iterR_ret (blockR_ret (thenR_ret (thenR_ret (finR_ret ?_)))))))
                  have h319 := St.pickT (C := [_, _, _, _, _]) h315 [] (by decide)
                  simp only [pick, List.filterMap_cons, List.filterMap_nil, List.getElem?_cons_zero, List.getElem?_cons_succ, List.cons_append, List.nil_append] at h319
                  replace hR := hR.2
                  subst r
                  refine RetOk.mk (.tmp_bool rfl .nil) ?_
                  obtain ⟨CF, hx1, hx2⟩ := hFr
                  subst hx1
                  have hdr := St.dropC (N := []) h319
                  exact ⟨rfl, hdr⟩
                ·
                  replace hR := ifF hR hc317
                  refine W.condF (congrArg Value.bool (decide_eq_false hc317)) ?_
                  refine W.skip ?_
                  refine blockR_norm ?_
                  refine hK229 _ _ ?_; clear hK229
                  refine W.regionT [(0, true), (1, true), (2, true)] (by kernel_rfl) ?_
                  refine Plan.move_int rfl rfl ?_
                  obtain ⟨hc320, hR⟩ := hR
                  refine Plan.addN (a := i_222) (b := 1) rfl rfl rfl (by omega) ?_
                  refine Plan.assign_int rfl rfl ?_
                  refine Plan.nil ?_
                  exact iterR_norm ⟨_, hR, (EnvHas.cons rfl (EnvHas.cons rfl (EnvHas.cons rfl (EnvHas.cons rfl (EnvHas.cons rfl EnvHas.nil))))), h315⟩
              ·
                replace hR := ifF hR hc310
                refine Plan.cmpV (a := (((at_276 : Nat) : Int) : Int)) (b := (((x_9.length : Nat) : Int) : Int)) (p := at_276 < x_9.length) (v := false) rfl rfl rfl rfl icmp_ltN (decide_eq_false hc310) ?_
                refine Plan.move_bool rfl rfl ?_
                refine Plan.passed rfl ?_
                refine Plan.passed rfl ?_
                refine Plan.passed rfl ?_
                refine Plan.passed rfl ?_
                refine Plan.passed rfl ?_
                refine Plan.passed rfl ?_
                refine Plan.passed rfl ?_
                refine Plan.passed rfl ?_
                refine Plan.pickFb rfl rfl rfl ?_
                refine Plan.pickFb rfl rfl rfl ?_
                refine Plan.nil ?_
                refine hK301 _ _ ?_; clear hK301
                refine W.condF rfl ?_
                refine W.skip ?_
                refine blockR_norm ?_
                refine hK229 _ _ ?_; clear hK229
                refine W.regionT [(0, true), (1, true), (2, true)] (by kernel_rfl) ?_
                refine Plan.move_int rfl rfl ?_
                obtain ⟨hc321, hR⟩ := hR
                refine Plan.addN (a := i_222) (b := 1) rfl rfl rfl (by omega) ?_
                refine Plan.assign_int rfl rfl ?_
                refine Plan.nil ?_
                exact iterR_norm ⟨_, hR, (EnvHas.cons rfl (EnvHas.cons rfl (EnvHas.cons rfl (EnvHas.cons rfl (EnvHas.cons rfl EnvHas.nil))))), h300⟩
      ·
        replace hR := ifF hR hc228
        refine W.condF (congrArg Value.bool (decide_eq_false hc228)) ?_
        refine W.exit (thenR_exit (iterR_exit (blockR_here ?_)))
        exact ⟨at_221, (hx224 _ hR).symm, (EnvHas.cons rfl (EnvHas.cons rfl (EnvHas.cons rfl (EnvHas.cons rfl EnvHas.nil)))), h225⟩
    ·
      rintro ev322 wl322 ⟨y_at_223, hy322, he322, h322⟩
      obtain ⟨ev322, rfl⟩ := he322.open
      replace hR := hR0224 y_at_223 hy322
      obtain ⟨at_223, e_at_223⟩ : ∃ z, z = y_at_223 := ⟨_, rfl⟩; subst e_at_223
      refine hK36 _ _ ?_; clear hK36
      refine W.seq_k fun K323 hK323 => ?_
      refine W.regionT [(0, true), (1, false), (2, false), (3, false)] (by kernel_rfl) ?_
      refine Plan.loadA h322 rfl rfl (.cons 2 rfl (.cons 3 rfl (.cons 4 rfl .nil))) FPackLayout.agg25 ?_
      obtain ⟨x_325, x_326, x_327, hr324, hR⟩ := hR
      refine Plan.call (vs := [AG [(1, fun _ => .int .i64 goneTable2), (1, fun _ => .slice agoneKey3 goneKey3.length cgoneKey3), (1, fun _ => .slice agoneValue4 goneValue4.length cgoneValue4)]]) rfl FPackLayout.call15 rfl (lethelaw11_right_ok (LP := L) (by exact fun r hr => List.mem_append_right [_, _, _, _, _] ((fun _ h => h) r hr)) (by exact ⟨_, hv18⟩) (by exact ⟨_, hv19⟩) hr324 h322) ?_
      rintro _ w334 ⟨C334, iy0_1_328, ay0_1_329, cy0_1_330, iy0_2_331, ay0_2_332, cy0_2_333, rfl, h334, hf334_0, hf334_1⟩
      try dsimp only at hf334_0 hf334_1
      replace h334 := St.pool (N := []) (R := [_, _, _, _, _]) h334
      obtain ⟨L, hL335⟩ : ∃ X, X = C334 ++ L := ⟨_, rfl⟩
      have h335 := St.re (N := [_, _, _, _, _]) hL335 h334
      simp only [List.cons_append, List.nil_append] at h335
      replace hFr : Fr2 _ _ L L := hFr.step hL335 hL335
      obtain ⟨ix336, hv336⟩ : ∃ i, Bx L i agoneKey3 goneKey3.length cgoneKey3 goneKey3 := ⟨_, by rw [hL335]; exact hv18.app _⟩
      obtain ⟨ix337, hv337⟩ : ∃ i, Bx L i agoneValue4 goneValue4.length cgoneValue4 goneValue4 := ⟨_, by rw [hL335]; exact hv19.app _⟩
      have ho338 : LO (D25.at L) [] ay0_10 py0_11 (x_9).length cy0_13 Fy0_14 x_9 := by rw [hL335]; exact LO.grow D25_lifts (fun r hr => List.mem_append_right _ hr) hd15_0
      have hp339 : ∃ i, Bx L i ay0_1_329 x_326.length cy0_1_330 x_326 := by rw [hL335]; exact ⟨_, hf334_0⟩
      obtain ⟨ix339, hv339⟩ := hp339
      have hp340 : ∃ i, Bx L i ay0_2_332 x_327.length cy0_2_333 x_327 := by rw [hL335]; exact ⟨_, hf334_1⟩
      obtain ⟨ix340, hv340⟩ := hp340
      refine ⟨_, rfl, .inr ⟨rfl, ?_⟩⟩
      refine Plan.alloc h335 rfl FPackLayout.z25 PIn.nil fun b341 w341 hb341 h341 => ?_
      simp only [rngs, Nat.zero_add, Nat.reduceAdd, List.cons_append, List.nil_append] at h341
      refine Plan.storeP (ps := [(1, fun _ => .int .i64 x_325), (1, fun _ => .slice ay0_1_329 x_326.length cy0_1_330), (1, fun _ => .slice ay0_2_332 x_327.length cy0_2_333)]) h341 rfl rfl rfl (.cons 0 rfl (.cons 1 rfl (.cons 2 rfl .nil))) ⟨fun _ _ => rfl, fun _ _ => rfl, fun _ _ => rfl, trivial⟩ FPackLayout.sz25 (EffO.keep PIn.nil) fun w342 h342 => ?_
      simp only [List.cons_append, List.nil_append, List.set_cons_zero, List.set_cons_succ] at h342
      refine Plan.nil ?_
      refine hK323 _ _ ?_; clear hK323
      refine W.seq_k fun K343 hK343 => ?_
      refine W.regionT [(0, true), (1, true), (2, true), (3, true), (4, true), (5, false), (6, true), (7, true), (8, true), (9, true), (10, true)] (by kernel_rfl) ?_
      refine Plan.move_slice rfl rfl ?_
      refine Plan.fieldAddr0 FPackLayout.fld25_0 rfl rfl ?_
      refine Plan.load0 h342 0 rfl rfl rfl (by omega) FPackLayout.sc3 ?_
      refine Plan.fieldAddr 1 FPackLayout.fld25_1 rfl rfl ?_
      refine Plan.load0 h342 1 rfl rfl rfl (by omega) FPackLayout.sc23 ?_
      obtain ⟨x_345, x_346, hr344, hR⟩ := hR
      refine Plan.call (vs := [.slice ay0_10 x_9.length cy0_13, .int .i64 x_325, .slice ay0_1_329 x_326.length cy0_1_330]) rfl FPackLayout.call20 rfl (pack_Find_ok (by exact (LV.grow D25_lifts (fun r hr => List.mem_append_right [_, _, _, _, _, _, _, _] ((fun _ h => h) r hr)) (LO.lvf EL.at_flat ho338 4 rfl))) (hv339.app [_, _, _, _, _, _, _, _]) hr344 h342) ?_
      rintro _ w347 ⟨rfl, h347⟩
      refine ⟨_, rfl, .inr ⟨rfl, ?_⟩⟩
      refine Plan.move_tuple rfl rfl ?_
      refine Plan.extract_int rfl rfl rfl ?_
      refine Plan.extract_bool rfl rfl rfl ?_
      refine Plan.assign_int rfl rfl ?_
      refine Plan.assign_bool rfl rfl ?_
      refine Plan.nil ?_
      refine hK343 _ _ ?_; clear hK343
      refine W.seq_k fun K348 hK348 => ?_
      refine W.regionT [(0, true), (1, true), (2, false), (3, true), (4, true), (5, true), (6, true), (7, true)] (by kernel_rfl) ?_
      refine Plan.move_slice rfl rfl ?_
      refine Plan.loadA h347 rfl rfl (.cons 0 rfl (.cons 1 rfl (.cons 2 rfl .nil))) FPackLayout.agg25 ?_
      obtain ⟨x_350, x_351, hr349, hR⟩ := hR
      refine Plan.call (vs := [.slice ay0_10 x_9.length cy0_13, AG [(1, fun _ => .int .i64 x_325), (1, fun _ => .slice ay0_1_329 x_326.length cy0_1_330), (1, fun _ => .slice ay0_2_332 x_327.length cy0_2_333)]]) rfl FPackLayout.call19 rfl (pack_Put_ok (by exact (LV.grow D25_lifts (fun r hr => List.mem_append_right [_, _, _, _, _, _, _, _] ((fun _ h => h) r hr)) (LO.lvf EL.at_flat ho338 4 rfl))) (hv339.app [_, _, _, _, _, _, _, _]) (hv340.app [_, _, _, _, _, _, _, _]) hr349 h347) ?_
      rintro _ w357 ⟨C357, ay0_352, py0_353, ny0_354, cy0_355, Fy0_356, rfl, h357, hf357_0⟩
      try dsimp only at hf357_0
      replace h357 := St.pool (N := [_]) (R := [_, _, _, _, _, _, _, _]) h357
      obtain ⟨L, hL358⟩ : ∃ X, X = C357 ++ L := ⟨_, rfl⟩
      have h358 := St.re (N := [_, _, _, _, _, _, _, _, _]) hL358 h357
      simp only [List.cons_append, List.nil_append] at h358
      replace hFr : Fr2 _ _ L L := hFr.step hL358 hL358
      obtain ⟨ix359, hv359⟩ : ∃ i, Bx L i agoneKey3 goneKey3.length cgoneKey3 goneKey3 := ⟨_, by rw [hL358]; exact hv336.app _⟩
      obtain ⟨ix360, hv360⟩ : ∃ i, Bx L i agoneValue4 goneValue4.length cgoneValue4 goneValue4 := ⟨_, by rw [hL358]; exact hv337.app _⟩
      obtain ⟨ix361, hv361⟩ : ∃ i, Bx L i ay0_1_329 x_326.length cy0_1_330 x_326 := ⟨_, by rw [hL358]; exact hv339.app _⟩
      obtain ⟨ix362, hv362⟩ : ∃ i, Bx L i ay0_2_332 x_327.length cy0_2_333 x_327 := ⟨_, by rw [hL358]; exact hv340.app _⟩
      have ho363 : LO (D25.at L) [] ay0_10 py0_11 (x_9).length cy0_13 Fy0_14 x_9 := by rw [hL358]; exact LO.grow D25_lifts (fun r hr => List.mem_append_right _ hr) ho338
      obtain rfl := hf357_0.hl
      have hd357_0 : LO (D25.at L) [] ay0_352 py0_353 (x_350).length cy0_355 Fy0_356 x_350 := LO.grow D25_lifts (fun r hr => (by rw [hL358]; exact List.mem_append_left _ hr)) hf357_0
      refine ⟨_, rfl, .inr ⟨rfl, ?_⟩⟩
      refine Plan.move_tuple rfl rfl ?_
      refine Plan.extract_slice rfl rfl rfl ?_
      refine Plan.extract_int rfl rfl rfl ?_
      refine Plan.assign_slice rfl rfl ?_
      refine Plan.assign_int rfl rfl ?_
      refine Plan.nil ?_
      refine hK348 _ _ ?_; clear hK348
      refine W.seq_k fun K364 hK364 => ?_
      refine W.regionT [(0, true), (1, true), (2, true), (3, true), (4, true), (5, false), (6, true), (7, true), (8, true), (9, true), (10, true)] (by kernel_rfl) ?_
      refine Plan.move_slice rfl rfl ?_
      refine Plan.fieldAddr0 FPackLayout.fld25_0 rfl rfl ?_
      refine Plan.load0 h358 1 rfl rfl rfl (by omega) FPackLayout.sc3 ?_
      refine Plan.fieldAddr 1 FPackLayout.fld25_1 rfl rfl ?_
      refine Plan.load0 h358 2 rfl rfl rfl (by omega) FPackLayout.sc23 ?_
      obtain ⟨x_366, x_367, hr365, hR⟩ := hR
      refine Plan.call (vs := [.slice ay0_352 x_350.length cy0_355, .int .i64 x_325, .slice ay0_1_329 x_326.length cy0_1_330]) rfl FPackLayout.call21 rfl (pack_Delete_ok (by exact (LV.grow D25_lifts (fun r hr => List.mem_append_right [_, _, _, _, _, _, _, _, _] ((fun _ h => h) r hr)) (LO.lvf EL.at_flat hd357_0 0 rfl))) (hv361.app [_, _, _, _, _, _, _, _, _]) hr365 h358) ?_
      rintro _ w373 ⟨C373, ay0_368, py0_369, ny0_370, cy0_371, Fy0_372, rfl, h373, hf373_0⟩
      try dsimp only at hf373_0
      replace h373 := St.pool (N := [_]) (R := [_, _, _, _, _, _, _, _, _]) h373
      obtain ⟨L, hL374⟩ : ∃ X, X = C373 ++ L := ⟨_, rfl⟩
      have h374 := St.re (N := [_, _, _, _, _, _, _, _, _, _]) hL374 h373
      simp only [List.cons_append, List.nil_append] at h374
      replace hFr : Fr2 _ _ L L := hFr.step hL374 hL374
      obtain ⟨ix375, hv375⟩ : ∃ i, Bx L i agoneKey3 goneKey3.length cgoneKey3 goneKey3 := ⟨_, by rw [hL374]; exact hv359.app _⟩
      obtain ⟨ix376, hv376⟩ : ∃ i, Bx L i agoneValue4 goneValue4.length cgoneValue4 goneValue4 := ⟨_, by rw [hL374]; exact hv360.app _⟩
      obtain ⟨ix377, hv377⟩ : ∃ i, Bx L i ay0_1_329 x_326.length cy0_1_330 x_326 := ⟨_, by rw [hL374]; exact hv361.app _⟩
      obtain ⟨ix378, hv378⟩ : ∃ i, Bx L i ay0_2_332 x_327.length cy0_2_333 x_327 := ⟨_, by rw [hL374]; exact hv362.app _⟩
      have ho379 : LO (D25.at L) [] ay0_352 py0_353 (x_350).length cy0_355 Fy0_356 x_350 := by rw [hL374]; exact LO.grow D25_lifts (fun r hr => List.mem_append_right _ hr) hd357_0
      have ho380 : LO (D25.at L) [] ay0_10 py0_11 (x_9).length cy0_13 Fy0_14 x_9 := by rw [hL374]; exact LO.grow D25_lifts (fun r hr => List.mem_append_right _ hr) ho363
      obtain rfl := hf373_0.hl
      have hd373_0 : LO (D25.at L) [] ay0_368 py0_369 (x_366).length cy0_371 Fy0_372 x_366 := LO.grow D25_lifts (fun r hr => (by rw [hL374]; exact List.mem_append_left _ hr)) hf373_0
      refine ⟨_, rfl, .inr ⟨rfl, ?_⟩⟩
      refine Plan.move_tuple rfl rfl ?_
      refine Plan.extract_slice rfl rfl rfl ?_
      refine Plan.extract_int rfl rfl rfl ?_
      refine Plan.assign_slice rfl rfl ?_
      refine Plan.assign_int rfl rfl ?_
      refine Plan.nil ?_
      refine hK364 _ _ ?_; clear hK364
      refine W.seq_k fun K381 hK381 => ?_
      refine W.seq_k fun K389 hK389 => ?_
      refine W.regionT [(0, true), (1, true), (2, true), (3, true), (4, true), (5, true), (6, true), (7, true), (8, true), (9, true), (10, true), (11, true)] (by kernel_rfl) ?_
      refine Plan.move_int rfl rfl ?_
      by_cases hc390 : x_351 ≠ 0
      ·
        replace hR := ifT hR hc390
        refine Plan.cmpV (a := (((x_351 : Nat) : Int) : Int)) (b := (0 : Int)) (p := x_351 ≠ 0) (v := true) rfl rfl rfl rfl icmp_neN (decide_eq_true hc390) ?_
        refine Plan.move_bool rfl rfl ?_
        refine Plan.passed rfl ?_
        refine Plan.passed rfl ?_
        refine Plan.pickTb rfl rfl rfl ?_
        refine Plan.move_bool rfl rfl ?_
        refine Plan.passed rfl ?_
        refine Plan.passed rfl ?_
        refine Plan.passed rfl ?_
        refine Plan.passed rfl ?_
        refine Plan.pickTb rfl rfl rfl ?_
        refine Plan.nil ?_
        refine hK389 _ _ ?_; clear hK389
        refine W.condT rfl ?_
        refine W.seq_k fun K391 hK391 => ?_
        refine W.regionT [(0, true)] (by kernel_rfl) ?_
        refine Plan.assign_bool rfl rfl ?_
        refine Plan.nil ?_
        refine hK391 _ _ ?_; clear hK391
        refine W.ret (thenR_ret (finR_ret ?_))
        have h392 := St.pickT (C := [_, _, _, _, _, _, _, _, _, _]) h374 [] (by decide)
        simp only [pick, List.filterMap_cons, List.filterMap_nil, List.getElem?_cons_zero, List.getElem?_cons_succ, List.cons_append, List.nil_append] at h392
        subst r
        refine RetOk.mk (.tmp_bool rfl .nil) ?_
        obtain ⟨CF, hx1, hx2⟩ := hFr
        subst hx1
        have hdr := St.dropC (N := []) h392
        exact ⟨rfl, hdr⟩
      ·
        replace hR := ifF hR hc390
        refine Plan.cmpV (a := (((x_351 : Nat) : Int) : Int)) (b := (0 : Int)) (p := x_351 ≠ 0) (v := false) rfl rfl rfl rfl icmp_neN (decide_eq_false hc390) ?_
        refine Plan.move_bool rfl rfl ?_
        refine Plan.move_int rfl rfl ?_
        by_cases hc393 : x_367 ≠ 0
        ·
          replace hR := ifT hR hc393
          refine Plan.cmpV (a := (((x_367 : Nat) : Int) : Int)) (b := (0 : Int)) (p := x_367 ≠ 0) (v := true) rfl rfl rfl rfl icmp_neN (decide_eq_true hc393) ?_
          refine Plan.pickFb rfl rfl rfl ?_
          refine Plan.move_bool rfl rfl ?_
          refine Plan.passed rfl ?_
          refine Plan.passed rfl ?_
          refine Plan.passed rfl ?_
          refine Plan.passed rfl ?_
          refine Plan.pickTb rfl rfl rfl ?_
          refine Plan.nil ?_
          refine hK389 _ _ ?_; clear hK389
          refine W.condT rfl ?_
          refine W.seq_k fun K394 hK394 => ?_
          refine W.regionT [(0, true)] (by kernel_rfl) ?_
          refine Plan.assign_bool rfl rfl ?_
          refine Plan.nil ?_
          refine hK394 _ _ ?_; clear hK394
          refine W.ret (thenR_ret (finR_ret ?_))
          have h395 := St.pickT (C := [_, _, _, _, _, _, _, _, _, _]) h374 [] (by decide)
          simp only [pick, List.filterMap_cons, List.filterMap_nil, List.getElem?_cons_zero, List.getElem?_cons_succ, List.cons_append, List.nil_append] at h395
          subst r
          refine RetOk.mk (.tmp_bool rfl .nil) ?_
          obtain ⟨CF, hx1, hx2⟩ := hFr
          subst hx1
          have hdr := St.dropC (N := []) h395
          exact ⟨rfl, hdr⟩
        ·
          replace hR := ifF hR hc393
          refine Plan.cmpV (a := (((x_367 : Nat) : Int) : Int)) (b := (0 : Int)) (p := x_367 ≠ 0) (v := false) rfl rfl rfl rfl icmp_neN (decide_eq_false hc393) ?_
          refine Plan.pickFb rfl rfl rfl ?_
          refine Plan.move_bool rfl rfl ?_
          refine Plan.move_int rfl rfl ?_
          refine Plan.move_slice rfl rfl ?_
          refine Plan.len FPackLayout.isl22 rfl rfl ?_
          refine Plan.cmpP (a := (((at_223 : Nat) : Int) : Int)) (b := (((x_9.length : Nat) : Int) : Int)) (p := at_223 ≠ x_9.length) rfl rfl rfl rfl icmp_neN ?_
          refine Plan.pickFb rfl rfl rfl ?_
          refine Plan.nil ?_
          refine hK389 _ _ ?_; clear hK389
          by_cases hc396 : at_223 ≠ x_9.length
          ·
            replace hR := ifT hR hc396
            refine W.condT (congrArg Value.bool (decide_eq_true hc396)) ?_
            refine W.seq_k fun K397 hK397 => ?_
            refine W.regionT [(0, true)] (by kernel_rfl) ?_
            refine Plan.assign_bool rfl rfl ?_
            refine Plan.nil ?_
            refine hK397 _ _ ?_; clear hK397
            refine W.ret (thenR_ret (finR_ret ?_))
            have h398 := St.pickT (C := [_, _, _, _, _, _, _, _, _, _]) h374 [] (by decide)
            simp only [pick, List.filterMap_cons, List.filterMap_nil, List.getElem?_cons_zero, List.getElem?_cons_succ, List.cons_append, List.nil_append] at h398
            subst r
            refine RetOk.mk (.tmp_bool rfl .nil) ?_
            obtain ⟨CF, hx1, hx2⟩ := hFr
            subst hx1
            have hdr := St.dropC (N := []) h398
            exact ⟨rfl, hdr⟩
          ·
            replace hR := ifF hR hc396
            refine W.condF (congrArg Value.bool (decide_eq_false hc396)) ?_
            refine W.skip ?_
            refine hK381 _ _ ?_; clear hK381
            refine W.seq_k fun K399 hK399 => ?_
            refine W.seq_k fun K400 hK400 => ?_
            refine W.regionT [(0, true)] (by kernel_rfl) ?_
            refine Plan.move_bool rfl rfl ?_
            refine Plan.nil ?_
            refine hK400 _ _ ?_; clear hK400
            by_cases hc401 : x_346 = true
            ·
              replace hR := ifT hR hc401
              refine W.condT (congrArg Value.bool hc401) ?_
              refine W.seq_k fun K402 hK402 => ?_
              refine W.regionT [(0, true), (1, true), (2, true), (3, true), (4, true), (5, true), (6, true), (7, true), (8, true), (9, true), (10, true), (11, true), (12, true), (13, true)] (by kernel_rfl) ?_
              refine Plan.move_slice rfl rfl ?_
              refine Plan.len FPackLayout.isl22 rfl rfl ?_
              refine Plan.move_slice rfl rfl ?_
              refine Plan.len FPackLayout.isl22 rfl rfl ?_
              by_cases hc403 : x_350.length = x_9.length
              ·
                replace hR := ifT hR hc403
                refine Plan.cmpV (a := (((x_350.length : Nat) : Int) : Int)) (b := (((x_9.length : Nat) : Int) : Int)) (p := x_350.length = x_9.length) (v := true) rfl rfl rfl rfl icmp_eqN (decide_eq_true hc403) ?_
                refine Plan.move_bool rfl rfl ?_
                refine Plan.move_slice rfl rfl ?_
                refine Plan.len FPackLayout.isl22 rfl rfl ?_
                refine Plan.move_slice rfl rfl ?_
                refine Plan.len FPackLayout.isl22 rfl rfl ?_
                obtain ⟨hc404, hR⟩ := hR
                refine Plan.subI (a := ((x_9.length : Nat) : Int)) (b := 1) rfl rfl rfl (by omega) ?_
                refine Plan.cmpP (a := (((x_366.length : Nat) : Int) : Int)) (b := ((((x_9.length : Nat) : Int) - 1) : Int)) (p := ((x_366.length : Nat) : Int) = (((x_9.length : Nat) : Int) - 1)) rfl rfl rfl rfl icmp_eq ?_
                refine Plan.pickTb rfl rfl rfl ?_
                refine Plan.assign_bool rfl rfl ?_
                refine Plan.nil ?_
                refine hK402 _ _ ?_; clear hK402
                refine W.ret (thenR_ret (finR_ret ?_))
                have h405 := St.pickT (C := [_, _, _, _, _, _, _, _, _, _]) h374 [] (by decide)
                simp only [pick, List.filterMap_cons, List.filterMap_nil, List.getElem?_cons_zero, List.getElem?_cons_succ, List.cons_append, List.nil_append] at h405
                subst r
                refine RetOk.mk (.tmp_bool rfl .nil) ?_
                obtain ⟨CF, hx1, hx2⟩ := hFr
                subst hx1
                have hdr := St.dropC (N := []) h405
                exact ⟨rfl, hdr⟩
              ·
                replace hR := ifF hR hc403
                refine Plan.cmpV (a := (((x_350.length : Nat) : Int) : Int)) (b := (((x_9.length : Nat) : Int) : Int)) (p := x_350.length = x_9.length) (v := false) rfl rfl rfl rfl icmp_eqN (decide_eq_false hc403) ?_
                refine Plan.move_bool rfl rfl ?_
                refine Plan.passed rfl ?_
                refine Plan.passed rfl ?_
                refine Plan.passed rfl ?_
                refine Plan.passed rfl ?_
                refine Plan.passed rfl ?_
                refine Plan.passed rfl ?_
                refine Plan.pickFb rfl rfl rfl ?_
                refine Plan.assign_bool rfl rfl ?_
                refine Plan.nil ?_
                refine hK402 _ _ ?_; clear hK402
                refine W.ret (thenR_ret (finR_ret ?_))
                have h406 := St.pickT (C := [_, _, _, _, _, _, _, _, _, _]) h374 [] (by decide)
                simp only [pick, List.filterMap_cons, List.filterMap_nil, List.getElem?_cons_zero, List.getElem?_cons_succ, List.cons_append, List.nil_append] at h406
                subst r
                refine RetOk.mk (.tmp_bool rfl .nil) ?_
                obtain ⟨CF, hx1, hx2⟩ := hFr
                subst hx1
                have hdr := St.dropC (N := []) h406
                exact ⟨rfl, hdr⟩
            ·
              replace hR := ifF hR hc401
              refine W.condF (congrArg Value.bool (Bool.eq_false_iff.2 hc401)) ?_
              refine W.skip ?_
              refine hK399 _ _ ?_; clear hK399
              refine W.seq_k fun K407 hK407 => ?_
              refine W.regionT [(0, true), (1, false), (2, true), (3, true), (4, true), (5, true), (6, true)] (by kernel_rfl) ?_
              refine Plan.move_slice rfl rfl ?_
              obtain ⟨x_409, x_410, hr408, hR⟩ := hR
              refine Plan.call (vs := [.slice ay0_368 x_366.length cy0_371]) rfl FPackLayout.call25 rfl (pack_Pack_ok (by exact (LV.grow D25_lifts (fun r hr => List.mem_append_right [_, _, _, _, _, _, _, _, _, _] ((fun _ h => h) r hr)) (LO.lvf EL.at_flat hd373_0 0 rfl))) hr408 h374) ?_
              rintro _ w416 ⟨ay0_411, py0_412, ny0_413, cy0_414, Fy0_415, rfl, h416, hf416_0⟩
              try dsimp only at hf416_0
              obtain rfl := hf416_0.hl
              refine ⟨_, rfl, .inl ⟨PIn.keep PIn.nil h416, ?_⟩⟩
              refine Plan.move_tuple rfl rfl ?_
              refine Plan.extract_slice rfl rfl rfl ?_
              refine Plan.extract_int rfl rfl rfl ?_
              refine Plan.assign_slice rfl rfl ?_
              refine Plan.assign_int rfl rfl ?_
              refine Plan.nil ?_
              refine hK407 _ _ ?_; clear hK407
              refine W.seq_k fun K417 hK417 => ?_
              refine W.regionT [(0, true), (1, true), (2, true), (3, true), (4, true), (5, false), (6, true), (7, true), (8, true), (9, true), (10, false), (11, true), (12, true)] (by kernel_rfl) ?_
              refine Plan.move_int rfl rfl ?_
              by_cases hc418 : x_410 = 0
              ·
                replace hR := ifT hR hc418
                refine Plan.cmpV (a := (((x_410 : Nat) : Int) : Int)) (b := (0 : Int)) (p := x_410 = 0) (v := true) rfl rfl rfl rfl icmp_eqN (decide_eq_true hc418) ?_
                refine Plan.move_bool rfl rfl ?_
                refine Plan.move_slice rfl rfl ?_
                refine Plan.move_slice rfl rfl ?_
                obtain ⟨x_420, hr419, hR⟩ := hR
                refine Plan.call (vs := [.slice ay0_368 x_366.length cy0_371, .slice ay0_10 x_9.length cy0_13]) rfl FPackLayout.call27 rfl (lethelaw11_Same_ok (by exact (LV.grow D25_lifts (fun r hr => List.mem_append_right [_, _, _, _, _, _, _, _, _, _, _] ((fun _ h => h) r hr)) (LO.lvf EL.at_flat hd373_0 1 rfl))) (by exact (LV.grow D25_lifts (fun r hr => List.mem_append_right [_, _, _, _, _, _, _, _, _, _, _] ((fun _ h => h) r hr)) (LO.lvf EL.at_flat ho380 7 rfl))) hr419 h416) ?_
                rintro _ w421 ⟨rfl, h421⟩
                refine ⟨_, rfl, .inl ⟨PIn.keep PIn.nil h421, ?_⟩⟩
                by_cases hc422 : x_420 = true
                ·
                  replace hR := ifT hR hc422
                  obtain rfl : x_420 = true := hc422
                  refine Plan.pickTb rfl rfl rfl ?_
                  refine Plan.move_bool rfl rfl ?_
                  refine Plan.move_slice rfl rfl ?_
                  refine Plan.move_slice rfl rfl ?_
                  obtain ⟨x_424, hr423, hR⟩ := hR
                  refine Plan.call (vs := [.slice ay0_411 x_409.length cy0_414, .slice ay0_24 x_22.length cy0_27]) rfl FPackLayout.call28 rfl (lethelaw11_sameInts_ok (by exact (LO.lvf D3_flat hf416_0 0 rfl)) (by exact (LO.lvf D3_flat hf29_0 6 rfl)) hr423 h421) ?_
                  rintro _ w425 ⟨rfl, h425⟩
                  refine ⟨_, rfl, .inl ⟨PIn.keep PIn.nil h425, ?_⟩⟩
                  refine Plan.pickTb rfl rfl rfl ?_
                  refine Plan.assign_bool rfl rfl ?_
                  refine Plan.nil ?_
                  refine hK417 _ _ ?_; clear hK417
                  refine W.ret (finR_ret ?_)
                  have h426 := St.pickT (C := [_, _, _, _, _, _, _, _, _, _, _]) h425 [] (by decide)
                  simp only [pick, List.filterMap_cons, List.filterMap_nil, List.getElem?_cons_zero, List.getElem?_cons_succ, List.cons_append, List.nil_append] at h426
                  subst r
                  refine RetOk.mk (.tmp_bool rfl .nil) ?_
                  obtain ⟨CF, hx1, hx2⟩ := hFr
                  subst hx1
                  have hdr := St.dropC (N := []) h426
                  exact ⟨rfl, hdr⟩
                ·
                  replace hR := ifF hR hc422
                  obtain rfl : x_420 = false := Bool.eq_false_iff.2 hc422
                  refine Plan.pickTb rfl rfl rfl ?_
                  refine Plan.move_bool rfl rfl ?_
                  refine Plan.passed rfl ?_
                  refine Plan.passed rfl ?_
                  refine Plan.passed rfl ?_
                  refine Plan.pickFb rfl rfl rfl ?_
                  refine Plan.assign_bool rfl rfl ?_
                  refine Plan.nil ?_
                  refine hK417 _ _ ?_; clear hK417
                  refine W.ret (finR_ret ?_)
                  have h427 := St.pickT (C := [_, _, _, _, _, _, _, _, _, _, _]) h421 [] (by decide)
                  simp only [pick, List.filterMap_cons, List.filterMap_nil, List.getElem?_cons_zero, List.getElem?_cons_succ, List.cons_append, List.nil_append] at h427
                  subst r
                  refine RetOk.mk (.tmp_bool rfl .nil) ?_
                  obtain ⟨CF, hx1, hx2⟩ := hFr
                  subst hx1
                  have hdr := St.dropC (N := []) h427
                  exact ⟨rfl, hdr⟩
              ·
                replace hR := ifF hR hc418
                refine Plan.cmpV (a := (((x_410 : Nat) : Int) : Int)) (b := (0 : Int)) (p := x_410 = 0) (v := false) rfl rfl rfl rfl icmp_eqN (decide_eq_false hc418) ?_
                refine Plan.move_bool rfl rfl ?_
                refine Plan.passed rfl ?_
                refine Plan.passed rfl ?_
                refine Plan.passed rfl ?_
                refine Plan.pickFb rfl rfl rfl ?_
                refine Plan.move_bool rfl rfl ?_
                refine Plan.passed rfl ?_
                refine Plan.passed rfl ?_
                refine Plan.passed rfl ?_
                refine Plan.pickFb rfl rfl rfl ?_
                refine Plan.assign_bool rfl rfl ?_
                refine Plan.nil ?_
                refine hK417 _ _ ?_; clear hK417
                refine W.ret (finR_ret ?_)
                have h428 := St.pickT (C := [_, _, _, _, _, _, _, _, _, _, _]) h416 [] (by decide)
                simp only [pick, List.filterMap_cons, List.filterMap_nil, List.getElem?_cons_zero, List.getElem?_cons_succ, List.cons_append, List.nil_append] at h428
                subst r
                refine RetOk.mk (.tmp_bool rfl .nil) ?_
                obtain ⟨CF, hx1, hx2⟩ := hFr
                subst hx1
                have hdr := St.dropC (N := []) h428
                exact ⟨rfl, hdr⟩

end Go.Proofs.Ytbkgblhmlenocaa
