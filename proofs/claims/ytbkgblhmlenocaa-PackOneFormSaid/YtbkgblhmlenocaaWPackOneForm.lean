/-
  WALKS of the package's functions, printed by this session's own program (auto.py).
-/
import Derived.Test.YtbkgblhmlenocaaProg
import Derived.Test.YtbkgblhmlenocaaEb
import Derived.Test.YtbkgblhmlenocaaRPackOneForm
import Derived.Test.YtbkgblhmlenocaaEls
import Derived.Test.YtbkgblhmlenocaaWLaw11
import Derived.Test.YtbkgblhmlenocaaWPack
namespace Go.Proofs.Ytbkgblhmlenocaa
set_option linter.unusedSimpArgs false
set_option linter.unusedVariables false
set_option linter.unusedSectionVars false
open Go Go.LW
theorem FPackOneForm.isl22 : ∃ el, Try.prog.underlying 22 = some (.slice el) := ⟨25, by kernel_rfl⟩
theorem FPackOneForm.sl22 : slB Try.prog 22 3 = true := by kernel_rfl
theorem FPackOneForm.agg25 : aggT Try.prog 25 3 = true := by kernel_rfl
theorem FPackOneForm.call17 : callB Try.prog 17 = true := by kernel_rfl
theorem FPackOneForm.call22 : callB Try.prog 22 = true := by kernel_rfl
theorem FPackOneForm.call23 : callB Try.prog 23 = true := by kernel_rfl
theorem FPackOneForm.call24 : callB Try.prog 24 = true := by kernel_rfl

set_option maxRecDepth 8000 in
set_option maxHeartbeats 1000000 in
theorem lethelaw11_PackOneForm_ok {B : Nat} {w0 w : World} {L : List Rg} {n_1 : Int} {content2 : List Byte} {acontent2 : Option Addr} {ncontent2 ccontent2 icontent2 : Nat} (hcontent2 : Bx L icontent2 acontent2 ncontent2 ccontent2 content2) {l_3 : List (Int × (List Byte) × (List Byte))} {al_3 : Option Addr} {nl_3 cl_3 il_3 : Nat} (hl_3 : LV (D25.at L) L il_3 al_3 nl_3 cl_3 l_3) {r : Bool} (hR : lethelaw11_PackOneForm n_1 content2 l_3 r) (HST : St B w0 (L) w) :
    Calls Try.prog 4 #[.int .i64 n_1, .slice acontent2 ncontent2 ccontent2, .slice al_3 nl_3 cl_3] w fun e w' => e = .returned (.bool r) ∧ St B w0 (L) w' := by
  refine W.enter 97 Try.func4 rfl rfl rfl ?_
  unfold lethelaw11_PackOneForm at hR
  have hFr : Fr2 L L L L := Fr2.refl _ _
  have econtent2 := hcontent2.hl; subst econtent2
  have el_3 := hl_3.hl; subst el_3
  refine W.seq_k fun K4 hK4 => ?_
  refine W.regionT [(0, true)] (by kernel_rfl) ?_
  refine Plan.assign_bool rfl rfl ?_
  refine Plan.nil ?_
  refine hK4 _ _ ?_; clear hK4
  refine W.seq_k fun K5 hK5 => ?_
  refine W.regionT [(0, false), (1, true), (2, true), (3, true), (4, true), (5, true)] (by kernel_rfl) ?_
  obtain ⟨x_7, x_8, hr6, hR⟩ := hR
  refine Plan.call (vs := [.slice none 0 0]) rfl FPackOneForm.call22 rfl (pack_Encode_ok (by exact (LV.nil 0)) hr6 HST) ?_
  rintro _ w14 ⟨ay0_9, py0_10, ny0_11, cy0_12, Fy0_13, rfl, h14, hf14_0⟩
  try dsimp only at hf14_0
  obtain rfl := hf14_0.hl
  refine ⟨_, rfl, .inl ⟨PIn.keep PIn.nil h14, ?_⟩⟩
  refine Plan.move_tuple rfl rfl ?_
  refine Plan.extract_slice rfl rfl rfl ?_
  refine Plan.extract_int rfl rfl rfl ?_
  refine Plan.assign_slice rfl rfl ?_
  refine Plan.assign_int rfl rfl ?_
  refine Plan.nil ?_
  refine hK5 _ _ ?_; clear hK5
  refine W.seq_k fun K15 hK15 => ?_
  refine W.seq_k fun K16 hK16 => ?_
  refine W.regionT [(0, true), (1, true)] (by kernel_rfl) ?_
  refine Plan.move_int rfl rfl ?_
  refine Plan.cmpP (a := (((x_8 : Nat) : Int) : Int)) (b := (0 : Int)) (p := x_8 ≠ 0) rfl rfl rfl rfl icmp_neN ?_
  refine Plan.nil ?_
  refine hK16 _ _ ?_; clear hK16
  by_cases hc17 : x_8 ≠ 0
  ·
    replace hR := ifT hR hc17
    refine W.condT (congrArg Value.bool (decide_eq_true hc17)) ?_
    refine W.seq_k fun K18 hK18 => ?_
    refine W.regionT [(0, true)] (by kernel_rfl) ?_
    refine Plan.assign_bool rfl rfl ?_
    refine Plan.nil ?_
    refine hK18 _ _ ?_; clear hK18
    refine W.ret (thenR_ret (finR_ret ?_))
    have h19 := St.pickT (C := [_]) h14 [] (by decide)
    simp only [pick, List.filterMap_cons, List.filterMap_nil, List.getElem?_cons_zero, List.getElem?_cons_succ, List.cons_append, List.nil_append] at h19
    subst r
    refine RetOk.mk (.tmp_bool rfl .nil) ?_
    exact ⟨rfl, h19⟩
  ·
    replace hR := ifF hR hc17
    refine W.condF (congrArg Value.bool (decide_eq_false hc17)) ?_
    refine W.skip ?_
    refine hK15 _ _ ?_; clear hK15
    refine W.seq_k fun K20 hK20 => ?_
    refine W.regionT [(0, true), (1, true), (2, false), (3, true), (4, true), (5, true), (6, true), (7, true)] (by kernel_rfl) ?_
    refine Plan.move_int rfl rfl ?_
    refine Plan.move_slice rfl rfl ?_
    obtain ⟨x_22, x_23, hr21, hR⟩ := hR
    refine Plan.call (vs := [.int .i64 n_1, .slice acontent2 content2.length ccontent2]) rfl FPackOneForm.call23 rfl (pack_Decode_ok (hcontent2.app [_]) hr21 h14) ?_
    rintro _ w29 ⟨C29, ay0_24, py0_25, ny0_26, cy0_27, Fy0_28, rfl, h29, hf29_0⟩
    try dsimp only at hf29_0
    replace h29 := St.pool (N := [_]) (R := [_]) h29
    obtain ⟨L, hL30⟩ : ∃ X, X = C29 ++ L := ⟨_, rfl⟩
    have h30 := St.re (N := [_, _]) hL30 h29
    simp only [List.cons_append, List.nil_append] at h30
    replace hFr : Fr2 _ _ L L := hFr.step hL30 hL30
    obtain ⟨ix31, hv31⟩ : ∃ i, Bx L i acontent2 content2.length ccontent2 content2 := ⟨_, by rw [hL30]; exact hcontent2.app _⟩
    obtain ⟨ix32, hv32⟩ : ∃ i, LV (D25.at L) L i al_3 l_3.length cl_3 l_3 := ⟨_, by rw [hL30]; exact (LV.grow D25_lifts (fun r hr => List.mem_append_right _ hr) hl_3).app _⟩
    obtain rfl := hf29_0.hl
    have hd29_0 : LO (D25.at L) [] ay0_24 py0_25 (x_22).length cy0_27 Fy0_28 x_22 := LO.grow D25_lifts (fun r hr => (by rw [hL30]; exact List.mem_append_left _ hr)) hf29_0
    refine ⟨_, rfl, .inl ⟨PIn.keep PIn.nil h30, ?_⟩⟩
    refine Plan.move_tuple rfl rfl ?_
    refine Plan.extract_slice rfl rfl rfl ?_
    refine Plan.extract_int rfl rfl rfl ?_
    refine Plan.assign_slice rfl rfl ?_
    refine Plan.assign_int rfl rfl ?_
    refine Plan.nil ?_
    refine hK20 _ _ ?_; clear hK20
    refine W.seq_k fun K33 hK33 => ?_
    refine W.seq_k fun K34 hK34 => ?_
    refine W.regionT [(0, true), (1, true)] (by kernel_rfl) ?_
    refine Plan.move_int rfl rfl ?_
    refine Plan.cmpP (a := (((x_23 : Nat) : Int) : Int)) (b := (0 : Int)) (p := x_23 ≠ 0) rfl rfl rfl rfl icmp_neN ?_
    refine Plan.nil ?_
    refine hK34 _ _ ?_; clear hK34
    by_cases hc35 : x_23 ≠ 0
    ·
      replace hR := ifT hR hc35
      refine W.condT (congrArg Value.bool (decide_eq_true hc35)) ?_
      refine W.seq_k fun K36 hK36 => ?_
      refine W.regionT [(0, true), (1, true), (2, true), (3, true)] (by kernel_rfl) ?_
      refine Plan.move_slice rfl rfl ?_
      refine Plan.len FPackOneForm.isl22 rfl rfl ?_
      refine Plan.cmpP (a := (((x_22.length : Nat) : Int) : Int)) (b := (0 : Int)) (p := x_22.length = 0) rfl rfl rfl rfl icmp_eqN ?_
      refine Plan.assign_bool rfl rfl ?_
      refine Plan.nil ?_
      refine hK36 _ _ ?_; clear hK36
      refine W.ret (thenR_ret (finR_ret ?_))
      have h37 := St.pickT (C := [_, _]) h30 [] (by decide)
      simp only [pick, List.filterMap_cons, List.filterMap_nil, List.getElem?_cons_zero, List.getElem?_cons_succ, List.cons_append, List.nil_append] at h37
      subst r
      refine RetOk.mk (.tmp_bool rfl .nil) ?_
      obtain ⟨CF, hx1, hx2⟩ := hFr
      subst hx1
      have hdr := St.dropC (N := []) h37
      exact ⟨rfl, hdr⟩
    ·
      replace hR := ifF hR hc35
      refine W.condF (congrArg Value.bool (decide_eq_false hc35)) ?_
      refine W.skip ?_
      refine hK33 _ _ ?_; clear hK33
      refine W.seq_k fun K38 hK38 => ?_
      refine W.regionT [(0, true), (1, false), (2, true), (3, true), (4, true), (5, true), (6, true)] (by kernel_rfl) ?_
      refine Plan.move_slice rfl rfl ?_
      obtain ⟨x_40, x_41, hr39, hR⟩ := hR
      refine Plan.call (vs := [.slice ay0_24 x_22.length cy0_27]) rfl FPackOneForm.call22 rfl (pack_Encode_ok (by exact (LV.grow D25_lifts (fun r hr => List.mem_append_right [_, _] ((fun _ h => h) r hr)) (LO.lvf EL.at_flat hd29_0 0 rfl))) hr39 h30) ?_
      rintro _ w47 ⟨ay0_42, py0_43, ny0_44, cy0_45, Fy0_46, rfl, h47, hf47_0⟩
      try dsimp only at hf47_0
      obtain rfl := hf47_0.hl
      refine ⟨_, rfl, .inl ⟨PIn.keep PIn.nil h47, ?_⟩⟩
      refine Plan.move_tuple rfl rfl ?_
      refine Plan.extract_slice rfl rfl rfl ?_
      refine Plan.extract_int rfl rfl rfl ?_
      refine Plan.assign_slice rfl rfl ?_
      refine Plan.assign_int rfl rfl ?_
      refine Plan.nil ?_
      refine hK38 _ _ ?_; clear hK38
      refine W.seq_k fun K48 hK48 => ?_
      refine W.seq_k fun K59 hK59 => ?_
      refine W.regionT [(0, true), (1, true), (2, true), (3, true), (4, true), (5, false), (6, true), (7, true), (8, true), (9, true), (10, true), (11, true), (12, true), (13, true)] (by kernel_rfl) ?_
      refine Plan.move_int rfl rfl ?_
      by_cases hc60 : x_41 ≠ 0
      ·
        replace hR := ifT hR hc60
        refine Plan.cmpV (a := (((x_41 : Nat) : Int) : Int)) (b := (0 : Int)) (p := x_41 ≠ 0) (v := true) rfl rfl rfl rfl icmp_neN (decide_eq_true hc60) ?_
        refine Plan.move_bool rfl rfl ?_
        refine Plan.passed rfl ?_
        refine Plan.passed rfl ?_
        refine Plan.passed rfl ?_
        refine Plan.passed rfl ?_
        refine Plan.pickTb rfl rfl rfl ?_
        refine Plan.move_bool rfl rfl ?_
        refine Plan.passed rfl ?_
        refine Plan.passed rfl ?_
        refine Plan.passed rfl ?_
        refine Plan.passed rfl ?_
        refine Plan.pickTb rfl rfl rfl ?_
        refine Plan.nil ?_
        refine hK59 _ _ ?_; clear hK59
        refine W.condT rfl ?_
        refine W.seq_k fun K61 hK61 => ?_
        refine W.regionT [(0, true)] (by kernel_rfl) ?_
        refine Plan.assign_bool rfl rfl ?_
        refine Plan.nil ?_
        refine hK61 _ _ ?_; clear hK61
        refine W.ret (thenR_ret (finR_ret ?_))
        have h62 := St.pickT (C := [_, _, _]) h47 [] (by decide)
        simp only [pick, List.filterMap_cons, List.filterMap_nil, List.getElem?_cons_zero, List.getElem?_cons_succ, List.cons_append, List.nil_append] at h62
        subst r
        refine RetOk.mk (.tmp_bool rfl .nil) ?_
        obtain ⟨CF, hx1, hx2⟩ := hFr
        subst hx1
        have hdr := St.dropC (N := []) h62
        exact ⟨rfl, hdr⟩
      ·
        replace hR := ifF hR hc60
        refine Plan.cmpV (a := (((x_41 : Nat) : Int) : Int)) (b := (0 : Int)) (p := x_41 ≠ 0) (v := false) rfl rfl rfl rfl icmp_neN (decide_eq_false hc60) ?_
        refine Plan.move_bool rfl rfl ?_
        refine Plan.move_slice rfl rfl ?_
        refine Plan.move_slice rfl rfl ?_
        obtain ⟨x_64, hr63, hR⟩ := hR
        refine Plan.call (vs := [.slice ay0_42 x_40.length cy0_45, .slice acontent2 content2.length ccontent2]) rfl FPackOneForm.call17 rfl (lethelaw11_Eq_ok (by exact (hf47_0.bx 0 rfl)) (hv31.app [_, _, _]) hr63 h47) ?_
        rintro _ w65 ⟨rfl, h65⟩
        refine ⟨_, rfl, .inl ⟨PIn.keep PIn.nil h65, ?_⟩⟩
        by_cases hc66 : x_64 = true
        ·
          replace hR := ifT hR hc66
          obtain rfl : x_64 = true := hc66
          refine Plan.notT rfl rfl ?_
          refine Plan.pickFb rfl rfl rfl ?_
          refine Plan.move_bool rfl rfl ?_
          refine Plan.move_slice rfl rfl ?_
          refine Plan.len FPackOneForm.isl22 rfl rfl ?_
          refine Plan.move_int rfl rfl ?_
          refine Plan.cmpP (a := (((x_22.length : Nat) : Int) : Int)) (b := (n_1 : Int)) (p := ((x_22.length : Nat) : Int) ≠ n_1) rfl rfl rfl rfl icmp_ne ?_
          refine Plan.pickFb rfl rfl rfl ?_
          refine Plan.nil ?_
          refine hK59 _ _ ?_; clear hK59
          by_cases hc67 : ((x_22.length : Nat) : Int) ≠ n_1
          ·
            replace hR := ifT hR hc67
            refine W.condT (congrArg Value.bool (decide_eq_true hc67)) ?_
            refine W.seq_k fun K68 hK68 => ?_
            refine W.regionT [(0, true)] (by kernel_rfl) ?_
            refine Plan.assign_bool rfl rfl ?_
            refine Plan.nil ?_
            refine hK68 _ _ ?_; clear hK68
            refine W.ret (thenR_ret (finR_ret ?_))
            have h69 := St.pickT (C := [_, _, _]) h65 [] (by decide)
            simp only [pick, List.filterMap_cons, List.filterMap_nil, List.getElem?_cons_zero, List.getElem?_cons_succ, List.cons_append, List.nil_append] at h69
            subst r
            refine RetOk.mk (.tmp_bool rfl .nil) ?_
            obtain ⟨CF, hx1, hx2⟩ := hFr
            subst hx1
            have hdr := St.dropC (N := []) h69
            exact ⟨rfl, hdr⟩
          ·
            replace hR := ifF hR hc67
            refine W.condF (congrArg Value.bool (decide_eq_false hc67)) ?_
            refine W.skip ?_
            refine hK48 _ _ ?_; clear hK48
            refine W.seq_k fun K70 hK70 => ?_
            refine W.regionT [(0, true), (1, true), (2, true), (3, false), (4, true), (5, true), (6, true), (7, true), (8, true)] (by kernel_rfl) ?_
            refine Plan.move_int rfl rfl ?_
            obtain ⟨hc71, hR⟩ := hR
            refine Plan.addI (a := n_1) (b := 1) rfl rfl rfl (by omega) ?_
            refine Plan.move_slice rfl rfl ?_
            obtain ⟨x_73, x_74, hr72, hR⟩ := hR
            refine Plan.call (vs := [.int .i64 (n_1 + 1), .slice acontent2 content2.length ccontent2]) rfl FPackOneForm.call23 rfl (pack_Decode_ok (hv31.app [_, _, _]) hr72 h65) ?_
            rintro _ w80 ⟨C80, ay0_75, py0_76, ny0_77, cy0_78, Fy0_79, rfl, h80, hf80_0⟩
            try dsimp only at hf80_0
            replace h80 := St.pool (N := [_]) (R := [_, _, _]) h80
            obtain ⟨L, hL81⟩ : ∃ X, X = C80 ++ L := ⟨_, rfl⟩
            have h81 := St.re (N := [_, _, _, _]) hL81 h80
            simp only [List.cons_append, List.nil_append] at h81
            replace hFr : Fr2 _ _ L L := hFr.step hL81 hL81
            obtain ⟨ix82, hv82⟩ : ∃ i, Bx L i acontent2 content2.length ccontent2 content2 := ⟨_, by rw [hL81]; exact hv31.app _⟩
            obtain ⟨ix83, hv83⟩ : ∃ i, LV (D25.at L) L i al_3 l_3.length cl_3 l_3 := ⟨_, by rw [hL81]; exact (LV.grow D25_lifts (fun r hr => List.mem_append_right _ hr) hv32).app _⟩
            have ho84 : LO (D25.at L) [] ay0_24 py0_25 (x_22).length cy0_27 Fy0_28 x_22 := by rw [hL81]; exact LO.grow D25_lifts (fun r hr => List.mem_append_right _ hr) hd29_0
            obtain rfl := hf80_0.hl
            have hd80_0 : LO (D25.at L) [] ay0_75 py0_76 (x_73).length cy0_78 Fy0_79 x_73 := LO.grow D25_lifts (fun r hr => (by rw [hL81]; exact List.mem_append_left _ hr)) hf80_0
            refine ⟨_, rfl, .inl ⟨PIn.keep PIn.nil h81, ?_⟩⟩
            refine Plan.move_tuple rfl rfl ?_
            refine Plan.extract_slice rfl rfl rfl ?_
            refine Plan.extract_int rfl rfl rfl ?_
            refine Plan.assign_slice rfl rfl ?_
            refine Plan.assign_int rfl rfl ?_
            refine Plan.nil ?_
            refine hK70 _ _ ?_; clear hK70
            refine W.seq_k fun K85 hK85 => ?_
            refine W.regionT [(0, true), (1, true), (2, true), (3, false), (4, true), (5, true), (6, true), (7, true), (8, true)] (by kernel_rfl) ?_
            refine Plan.move_int rfl rfl ?_
            obtain ⟨hc86, hR⟩ := hR
            refine Plan.subI (a := n_1) (b := 1) rfl rfl rfl (by omega) ?_
            refine Plan.move_slice rfl rfl ?_
            obtain ⟨x_88, x_89, hr87, hR⟩ := hR
            refine Plan.call (vs := [.int .i64 (n_1 - 1), .slice acontent2 content2.length ccontent2]) rfl FPackOneForm.call23 rfl (pack_Decode_ok (hv82.app [_, _, _, _]) hr87 h81) ?_
            rintro _ w95 ⟨C95, ay0_90, py0_91, ny0_92, cy0_93, Fy0_94, rfl, h95, hf95_0⟩
            try dsimp only at hf95_0
            replace h95 := St.pool (N := [_]) (R := [_, _, _, _]) h95
            obtain ⟨L, hL96⟩ : ∃ X, X = C95 ++ L := ⟨_, rfl⟩
            have h96 := St.re (N := [_, _, _, _, _]) hL96 h95
            simp only [List.cons_append, List.nil_append] at h96
            replace hFr : Fr2 _ _ L L := hFr.step hL96 hL96
            obtain ⟨ix97, hv97⟩ : ∃ i, Bx L i acontent2 content2.length ccontent2 content2 := ⟨_, by rw [hL96]; exact hv82.app _⟩
            obtain ⟨ix98, hv98⟩ : ∃ i, LV (D25.at L) L i al_3 l_3.length cl_3 l_3 := ⟨_, by rw [hL96]; exact (LV.grow D25_lifts (fun r hr => List.mem_append_right _ hr) hv83).app _⟩
            have ho99 : LO (D25.at L) [] ay0_75 py0_76 (x_73).length cy0_78 Fy0_79 x_73 := by rw [hL96]; exact LO.grow D25_lifts (fun r hr => List.mem_append_right _ hr) hd80_0
            have ho100 : LO (D25.at L) [] ay0_24 py0_25 (x_22).length cy0_27 Fy0_28 x_22 := by rw [hL96]; exact LO.grow D25_lifts (fun r hr => List.mem_append_right _ hr) ho84
            obtain rfl := hf95_0.hl
            have hd95_0 : LO (D25.at L) [] ay0_90 py0_91 (x_88).length cy0_93 Fy0_94 x_88 := LO.grow D25_lifts (fun r hr => (by rw [hL96]; exact List.mem_append_left _ hr)) hf95_0
            refine ⟨_, rfl, .inl ⟨PIn.keep PIn.nil h96, ?_⟩⟩
            refine Plan.move_tuple rfl rfl ?_
            refine Plan.extract_slice rfl rfl rfl ?_
            refine Plan.extract_int rfl rfl rfl ?_
            refine Plan.assign_slice rfl rfl ?_
            refine Plan.assign_int rfl rfl ?_
            refine Plan.nil ?_
            refine hK85 _ _ ?_; clear hK85
            refine W.seq_k fun K101 hK101 => ?_
            refine W.regionT [(0, true), (1, true), (2, true), (3, true), (4, true), (5, true), (6, true), (7, true), (8, true), (9, true), (10, true), (11, true), (12, true), (13, true), (14, true), (15, true), (16, true), (17, true), (18, false), (19, true), (20, true), (21, true), (22, true), (23, true), (24, true), (25, true), (26, true), (27, true), (28, true), (29, true), (30, true)] (by kernel_rfl) ?_
            refine Plan.move_int rfl rfl ?_
            by_cases hc102 : x_74 ≠ 0
            ·
              replace hR := ifT hR hc102
              refine Plan.cmpV (a := (((x_74 : Nat) : Int) : Int)) (b := (0 : Int)) (p := x_74 ≠ 0) (v := true) rfl rfl rfl rfl icmp_neN (decide_eq_true hc102) ?_
              refine Plan.move_bool rfl rfl ?_
              refine Plan.move_int rfl rfl ?_
              by_cases hc103 : n_1 = 0
              ·
                replace hR := ifT hR hc103
                refine Plan.cmpV (a := (n_1 : Int)) (b := (0 : Int)) (p := n_1 = 0) (v := true) rfl rfl rfl rfl icmp_eq (decide_eq_true hc103) ?_
                refine Plan.move_bool rfl rfl ?_
                refine Plan.passed rfl ?_
                refine Plan.passed rfl ?_
                refine Plan.pickTb rfl rfl rfl ?_
                refine Plan.move_bool rfl rfl ?_
                refine Plan.passed rfl ?_
                refine Plan.passed rfl ?_
                refine Plan.passed rfl ?_
                refine Plan.passed rfl ?_
                refine Plan.passed rfl ?_
                refine Plan.passed rfl ?_
                refine Plan.passed rfl ?_
                refine Plan.passed rfl ?_
                refine Plan.passed rfl ?_
                refine Plan.passed rfl ?_
                refine Plan.pickTb rfl rfl rfl ?_
                refine Plan.pickTb rfl rfl rfl ?_
                refine Plan.move_bool rfl rfl ?_
                refine Plan.move_int rfl rfl ?_
                by_cases hc104 : 0 < n_1
                ·
                  replace hR := ifT hR hc104
                  refine Plan.cmpV (a := (n_1 : Int)) (b := (0 : Int)) (p := 0 < n_1) (v := true) rfl rfl rfl rfl icmp_gt (decide_eq_true hc104) ?_
                  refine Plan.move_bool rfl rfl ?_
                  refine Plan.passed rfl ?_
                  refine Plan.passed rfl ?_
                  refine Plan.pickTb rfl rfl rfl ?_
                  refine Plan.pickTb rfl rfl rfl ?_
                  refine Plan.assign_bool rfl rfl ?_
                  refine Plan.nil ?_
                  refine hK101 _ _ ?_; clear hK101
                  refine W.ret (finR_ret ?_)
                  have h105 := St.pickT (C := [_, _, _, _, _]) h96 [] (by decide)
                  simp only [pick, List.filterMap_cons, List.filterMap_nil, List.getElem?_cons_zero, List.getElem?_cons_succ, List.cons_append, List.nil_append] at h105
                  subst r
                  refine RetOk.mk (.tmp_bool rfl .nil) ?_
                  obtain ⟨CF, hx1, hx2⟩ := hFr
                  subst hx1
                  have hdr := St.dropC (N := []) h105
                  exact ⟨rfl, hdr⟩
                ·
                  replace hR := ifF hR hc104
                  refine Plan.cmpV (a := (n_1 : Int)) (b := (0 : Int)) (p := 0 < n_1) (v := false) rfl rfl rfl rfl icmp_gt (decide_eq_false hc104) ?_
                  refine Plan.move_bool rfl rfl ?_
                  refine Plan.move_int rfl rfl ?_
                  refine Plan.cmpP (a := (((x_89 : Nat) : Int) : Int)) (b := (4 : Int)) (p := x_89 = 4) rfl rfl rfl rfl icmp_eqN ?_
                  refine Plan.pickFb rfl rfl rfl ?_
                  refine Plan.pickTb rfl rfl rfl ?_
                  refine Plan.assign_bool rfl rfl ?_
                  refine Plan.nil ?_
                  refine hK101 _ _ ?_; clear hK101
                  refine W.ret (finR_ret ?_)
                  have h106 := St.pickT (C := [_, _, _, _, _]) h96 [] (by decide)
                  simp only [pick, List.filterMap_cons, List.filterMap_nil, List.getElem?_cons_zero, List.getElem?_cons_succ, List.cons_append, List.nil_append] at h106
                  subst r
                  refine RetOk.mk (.tmp_bool rfl .nil) ?_
                  obtain ⟨CF, hx1, hx2⟩ := hFr
                  subst hx1
                  have hdr := St.dropC (N := []) h106
                  exact ⟨rfl, hdr⟩
              ·
                replace hR := ifF hR hc103
                refine Plan.cmpV (a := (n_1 : Int)) (b := (0 : Int)) (p := n_1 = 0) (v := false) rfl rfl rfl rfl icmp_eq (decide_eq_false hc103) ?_
                refine Plan.move_bool rfl rfl ?_
                refine Plan.move_int rfl rfl ?_
                by_cases hc107 : x_89 = 104
                ·
                  replace hR := ifT hR hc107
                  refine Plan.cmpV (a := (((x_89 : Nat) : Int) : Int)) (b := (104 : Int)) (p := x_89 = 104) (v := true) rfl rfl rfl rfl icmp_eqN (decide_eq_true hc107) ?_
                  refine Plan.pickFb rfl rfl rfl ?_
                  refine Plan.move_bool rfl rfl ?_
                  refine Plan.passed rfl ?_
                  refine Plan.passed rfl ?_
                  refine Plan.passed rfl ?_
                  refine Plan.passed rfl ?_
                  refine Plan.passed rfl ?_
                  refine Plan.passed rfl ?_
                  refine Plan.passed rfl ?_
                  refine Plan.passed rfl ?_
                  refine Plan.passed rfl ?_
                  refine Plan.passed rfl ?_
                  refine Plan.pickTb rfl rfl rfl ?_
                  refine Plan.pickTb rfl rfl rfl ?_
                  refine Plan.move_bool rfl rfl ?_
                  refine Plan.move_int rfl rfl ?_
                  by_cases hc108 : 0 < n_1
                  ·
                    replace hR := ifT hR hc108
                    refine Plan.cmpV (a := (n_1 : Int)) (b := (0 : Int)) (p := 0 < n_1) (v := true) rfl rfl rfl rfl icmp_gt (decide_eq_true hc108) ?_
                    refine Plan.move_bool rfl rfl ?_
                    refine Plan.passed rfl ?_
                    refine Plan.passed rfl ?_
                    refine Plan.pickTb rfl rfl rfl ?_
                    refine Plan.pickTb rfl rfl rfl ?_
                    refine Plan.assign_bool rfl rfl ?_
                    refine Plan.nil ?_
                    refine hK101 _ _ ?_; clear hK101
                    refine W.ret (finR_ret ?_)
                    have h109 := St.pickT (C := [_, _, _, _, _]) h96 [] (by decide)
                    simp only [pick, List.filterMap_cons, List.filterMap_nil, List.getElem?_cons_zero, List.getElem?_cons_succ, List.cons_append, List.nil_append] at h109
                    subst r
                    refine RetOk.mk (.tmp_bool rfl .nil) ?_
                    obtain ⟨CF, hx1, hx2⟩ := hFr
                    subst hx1
                    have hdr := St.dropC (N := []) h109
                    exact ⟨rfl, hdr⟩
                  ·
                    replace hR := ifF hR hc108
                    refine Plan.cmpV (a := (n_1 : Int)) (b := (0 : Int)) (p := 0 < n_1) (v := false) rfl rfl rfl rfl icmp_gt (decide_eq_false hc108) ?_
                    refine Plan.move_bool rfl rfl ?_
                    refine Plan.move_int rfl rfl ?_
                    refine Plan.cmpP (a := (((x_89 : Nat) : Int) : Int)) (b := (4 : Int)) (p := x_89 = 4) rfl rfl rfl rfl icmp_eqN ?_
                    refine Plan.pickFb rfl rfl rfl ?_
                    refine Plan.pickTb rfl rfl rfl ?_
                    refine Plan.assign_bool rfl rfl ?_
                    refine Plan.nil ?_
                    refine hK101 _ _ ?_; clear hK101
                    refine W.ret (finR_ret ?_)
                    have h110 := St.pickT (C := [_, _, _, _, _]) h96 [] (by decide)
                    simp only [pick, List.filterMap_cons, List.filterMap_nil, List.getElem?_cons_zero, List.getElem?_cons_succ, List.cons_append, List.nil_append] at h110
                    subst r
                    refine RetOk.mk (.tmp_bool rfl .nil) ?_
                    obtain ⟨CF, hx1, hx2⟩ := hFr
                    subst hx1
                    have hdr := St.dropC (N := []) h110
                    exact ⟨rfl, hdr⟩
                ·
                  replace hR := ifF hR hc107
                  refine Plan.cmpV (a := (((x_89 : Nat) : Int) : Int)) (b := (104 : Int)) (p := x_89 = 104) (v := false) rfl rfl rfl rfl icmp_eqN (decide_eq_false hc107) ?_
                  refine Plan.pickFb rfl rfl rfl ?_
                  refine Plan.move_bool rfl rfl ?_
                  refine Plan.move_int rfl rfl ?_
                  by_cases hc111 : x_89 = 0
                  ·
                    replace hR := ifT hR hc111
                    refine Plan.cmpV (a := (((x_89 : Nat) : Int) : Int)) (b := (0 : Int)) (p := x_89 = 0) (v := true) rfl rfl rfl rfl icmp_eqN (decide_eq_true hc111) ?_
                    refine Plan.move_bool rfl rfl ?_
                    refine Plan.move_slice rfl rfl ?_
                    refine Plan.move_int rfl rfl ?_
                    obtain ⟨hc112, hR⟩ := hR
                    refine Plan.subI (a := n_1) (b := 1) rfl rfl rfl (by omega) ?_
                    obtain ⟨hc113, hR⟩ := hR
                    refine Plan.idxLVS (D := (D25.at L)) (j := (n_1 - 1).toNat) h96 (LO.lvf EL.at_flat ho100 3 rfl) FPackOneForm.sl22 rfl rfl (congrArg (Value.int .i64) (Int.toNat_of_nonneg hc113.1).symm) (toNat_lt hc113.1 hc113.2) ?_
                    refine Plan.loadLV (D := (D25.at L)) (X := x_22) (j := (n_1 - 1).toNat) (sz := 3) h96 ((0 : Int), ([] : List Byte), ([] : List Byte)) (LO.lvf EL.at_flat ho100 3 rfl) rfl rfl (toNat_lt hc113.1 hc113.2) rfl FPackOneForm.agg25 fun b114 r114 hs114 hr114 => ?_
                    obtain ⟨⟨i114_1, hv114_1⟩, ⟨i114_2, hv114_2⟩⟩ := hs114
                    obtain ⟨x_116, hr115, hR⟩ := hR
                    refine Plan.call (vs := [AG [(1, fun _ => .int .i64 ((x_22.getD ((n_1 - 1).toNat) ((0 : Int), ([] : List Byte), ([] : List Byte))).1)), (1, fun _ => .slice ((b114.1).1) (((x_22.getD ((n_1 - 1).toNat) ((0 : Int), ([] : List Byte), ([] : List Byte))).2.1).length) ((b114.1).2)), (1, fun _ => .slice ((b114.2).1) (((x_22.getD ((n_1 - 1).toNat) ((0 : Int), ([] : List Byte), ([] : List Byte))).2.2).length) ((b114.2).2))]]) rfl FPackOneForm.call24 rfl (lethelaw11_blank_ok (hv114_1.app [_, _, _, _, _]) (hv114_2.app [_, _, _, _, _]) hr115 h96) ?_
                    rintro _ w117 ⟨rfl, h117⟩
                    refine ⟨_, rfl, .inr ⟨rfl, ?_⟩⟩
                    by_cases hc118 : x_116 = true
                    ·
                      replace hR := ifT hR hc118
                      obtain rfl : x_116 = true := hc118
                      refine Plan.pickTb rfl rfl rfl ?_
                      refine Plan.pickFb rfl rfl rfl ?_
                      refine Plan.pickTb rfl rfl rfl ?_
                      refine Plan.move_bool rfl rfl ?_
                      refine Plan.move_int rfl rfl ?_
                      by_cases hc119 : 0 < n_1
                      ·
                        replace hR := ifT hR hc119
                        refine Plan.cmpV (a := (n_1 : Int)) (b := (0 : Int)) (p := 0 < n_1) (v := true) rfl rfl rfl rfl icmp_gt (decide_eq_true hc119) ?_
                        refine Plan.move_bool rfl rfl ?_
                        refine Plan.passed rfl ?_
                        refine Plan.passed rfl ?_
                        refine Plan.pickTb rfl rfl rfl ?_
                        refine Plan.pickTb rfl rfl rfl ?_
                        refine Plan.assign_bool rfl rfl ?_
                        refine Plan.nil ?_
                        refine hK101 _ _ ?_; clear hK101
                        refine W.ret (finR_ret ?_)
                        have h120 := St.pickT (C := [_, _, _, _, _]) h117 [] (by decide)
                        simp only [pick, List.filterMap_cons, List.filterMap_nil, List.getElem?_cons_zero, List.getElem?_cons_succ, List.cons_append, List.nil_append] at h120
                        subst r
                        refine RetOk.mk (.tmp_bool rfl .nil) ?_
                        obtain ⟨CF, hx1, hx2⟩ := hFr
                        subst hx1
                        have hdr := St.dropC (N := []) h120
                        exact ⟨rfl, hdr⟩
                      ·
                        replace hR := ifF hR hc119
                        refine Plan.cmpV (a := (n_1 : Int)) (b := (0 : Int)) (p := 0 < n_1) (v := false) rfl rfl rfl rfl icmp_gt (decide_eq_false hc119) ?_
                        refine Plan.move_bool rfl rfl ?_
                        refine Plan.move_int rfl rfl ?_
                        refine Plan.cmpP (a := (((x_89 : Nat) : Int) : Int)) (b := (4 : Int)) (p := x_89 = 4) rfl rfl rfl rfl icmp_eqN ?_
                        refine Plan.pickFb rfl rfl rfl ?_
                        refine Plan.pickTb rfl rfl rfl ?_
                        refine Plan.assign_bool rfl rfl ?_
                        refine Plan.nil ?_
                        refine hK101 _ _ ?_; clear hK101
                        refine W.ret (finR_ret ?_)
                        have h121 := St.pickT (C := [_, _, _, _, _]) h117 [] (by decide)
                        simp only [pick, List.filterMap_cons, List.filterMap_nil, List.getElem?_cons_zero, List.getElem?_cons_succ, List.cons_append, List.nil_append] at h121
                        subst r
                        refine RetOk.mk (.tmp_bool rfl .nil) ?_
                        obtain ⟨CF, hx1, hx2⟩ := hFr
                        subst hx1
                        have hdr := St.dropC (N := []) h121
                        exact ⟨rfl, hdr⟩
                    ·
                      replace hR := ifF hR hc118
                      obtain rfl : x_116 = false := Bool.eq_false_iff.2 hc118
                      refine Plan.pickTb rfl rfl rfl ?_
                      refine Plan.pickFb rfl rfl rfl ?_
                      refine Plan.pickTb rfl rfl rfl ?_
                      refine Plan.move_bool rfl rfl ?_
                      refine Plan.passed rfl ?_
                      refine Plan.passed rfl ?_
                      refine Plan.passed rfl ?_
                      refine Plan.passed rfl ?_
                      refine Plan.passed rfl ?_
                      refine Plan.passed rfl ?_
                      refine Plan.pickFb rfl rfl rfl ?_
                      refine Plan.assign_bool rfl rfl ?_
                      refine Plan.nil ?_
                      refine hK101 _ _ ?_; clear hK101
                      refine W.ret (finR_ret ?_)
                      have h122 := St.pickT (C := [_, _, _, _, _]) h117 [] (by decide)
                      simp only [pick, List.filterMap_cons, List.filterMap_nil, List.getElem?_cons_zero, List.getElem?_cons_succ, List.cons_append, List.nil_append] at h122
                      subst r
                      refine RetOk.mk (.tmp_bool rfl .nil) ?_
                      obtain ⟨CF, hx1, hx2⟩ := hFr
                      subst hx1
                      have hdr := St.dropC (N := []) h122
                      exact ⟨rfl, hdr⟩
                  ·
                    replace hR := ifF hR hc111
                    refine Plan.cmpV (a := (((x_89 : Nat) : Int) : Int)) (b := (0 : Int)) (p := x_89 = 0) (v := false) rfl rfl rfl rfl icmp_eqN (decide_eq_false hc111) ?_
                    refine Plan.move_bool rfl rfl ?_
                    refine Plan.passed rfl ?_
                    refine Plan.passed rfl ?_
                    refine Plan.passed rfl ?_
                    refine Plan.passed rfl ?_
                    refine Plan.passed rfl ?_
                    refine Plan.passed rfl ?_
                    refine Plan.pickFb rfl rfl rfl ?_
                    refine Plan.pickFb rfl rfl rfl ?_
                    refine Plan.pickTb rfl rfl rfl ?_
                    refine Plan.move_bool rfl rfl ?_
                    refine Plan.passed rfl ?_
                    refine Plan.passed rfl ?_
                    refine Plan.passed rfl ?_
                    refine Plan.passed rfl ?_
                    refine Plan.passed rfl ?_
                    refine Plan.passed rfl ?_
                    refine Plan.pickFb rfl rfl rfl ?_
                    refine Plan.assign_bool rfl rfl ?_
                    refine Plan.nil ?_
                    refine hK101 _ _ ?_; clear hK101
                    refine W.ret (finR_ret ?_)
                    have h123 := St.pickT (C := [_, _, _, _, _]) h96 [] (by decide)
                    simp only [pick, List.filterMap_cons, List.filterMap_nil, List.getElem?_cons_zero, List.getElem?_cons_succ, List.cons_append, List.nil_append] at h123
                    subst r
                    refine RetOk.mk (.tmp_bool rfl .nil) ?_
                    obtain ⟨CF, hx1, hx2⟩ := hFr
                    subst hx1
                    have hdr := St.dropC (N := []) h123
                    exact ⟨rfl, hdr⟩
            ·
              replace hR := ifF hR hc102
              refine Plan.cmpV (a := (((x_74 : Nat) : Int) : Int)) (b := (0 : Int)) (p := x_74 ≠ 0) (v := false) rfl rfl rfl rfl icmp_neN (decide_eq_false hc102) ?_
              refine Plan.move_bool rfl rfl ?_
              refine Plan.passed rfl ?_
              refine Plan.passed rfl ?_
              refine Plan.passed rfl ?_
              refine Plan.passed rfl ?_
              refine Plan.passed rfl ?_
              refine Plan.passed rfl ?_
              refine Plan.passed rfl ?_
              refine Plan.passed rfl ?_
              refine Plan.passed rfl ?_
              refine Plan.passed rfl ?_
              refine Plan.passed rfl ?_
              refine Plan.passed rfl ?_
              refine Plan.passed rfl ?_
              refine Plan.passed rfl ?_
              refine Plan.passed rfl ?_
              refine Plan.passed rfl ?_
              refine Plan.passed rfl ?_
              refine Plan.passed rfl ?_
              refine Plan.pickFb rfl rfl rfl ?_
              refine Plan.move_bool rfl rfl ?_
              refine Plan.passed rfl ?_
              refine Plan.passed rfl ?_
              refine Plan.passed rfl ?_
              refine Plan.passed rfl ?_
              refine Plan.passed rfl ?_
              refine Plan.passed rfl ?_
              refine Plan.pickFb rfl rfl rfl ?_
              refine Plan.assign_bool rfl rfl ?_
              refine Plan.nil ?_
              refine hK101 _ _ ?_; clear hK101
              refine W.ret (finR_ret ?_)
              have h124 := St.pickT (C := [_, _, _, _, _]) h96 [] (by decide)
              simp only [pick, List.filterMap_cons, List.filterMap_nil, List.getElem?_cons_zero, List.getElem?_cons_succ, List.cons_append, List.nil_append] at h124
              subst r
              refine RetOk.mk (.tmp_bool rfl .nil) ?_
              obtain ⟨CF, hx1, hx2⟩ := hFr
              subst hx1
              have hdr := St.dropC (N := []) h124
              exact ⟨rfl, hdr⟩
        ·
          replace hR := ifF hR hc66
          obtain rfl : x_64 = false := Bool.eq_false_iff.2 hc66
          refine Plan.notF rfl rfl ?_
          refine Plan.pickFb rfl rfl rfl ?_
          refine Plan.move_bool rfl rfl ?_
          refine Plan.passed rfl ?_
          refine Plan.passed rfl ?_
          refine Plan.passed rfl ?_
          refine Plan.passed rfl ?_
          refine Plan.pickTb rfl rfl rfl ?_
          refine Plan.nil ?_
          refine hK59 _ _ ?_; clear hK59
          refine W.condT rfl ?_
          refine W.seq_k fun K125 hK125 => ?_
          refine W.regionT [(0, true)] (by kernel_rfl) ?_
          refine Plan.assign_bool rfl rfl ?_
          refine Plan.nil ?_
          refine hK125 _ _ ?_; clear hK125
          refine W.ret (thenR_ret (finR_ret ?_))
          have h126 := St.pickT (C := [_, _, _]) h65 [] (by decide)
          simp only [pick, List.filterMap_cons, List.filterMap_nil, List.getElem?_cons_zero, List.getElem?_cons_succ, List.cons_append, List.nil_append] at h126
          subst r
          refine RetOk.mk (.tmp_bool rfl .nil) ?_
          obtain ⟨CF, hx1, hx2⟩ := hFr
          subst hx1
          have hdr := St.dropC (N := []) h126
          exact ⟨rfl, hdr⟩

end Go.Proofs.Ytbkgblhmlenocaa
