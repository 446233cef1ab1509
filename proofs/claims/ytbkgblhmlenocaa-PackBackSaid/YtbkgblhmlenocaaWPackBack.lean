/-
  WALKS of the package's functions, printed by this session's own program (auto.py).
-/
import Derived.Test.YtbkgblhmlenocaaProg
import Derived.Test.YtbkgblhmlenocaaEb
import Derived.Test.YtbkgblhmlenocaaRPackBack
import Derived.Test.YtbkgblhmlenocaaEls
import Derived.Test.YtbkgblhmlenocaaWLaw11
import Derived.Test.YtbkgblhmlenocaaWPack
namespace Go.Proofs.Ytbkgblhmlenocaa
set_option linter.unusedSimpArgs false
set_option linter.unusedVariables false
set_option linter.unusedSectionVars false
open Go Go.LW
theorem FPackBack.isl22 : ∃ el, Try.prog.underlying 22 = some (.slice el) := ⟨25, by kernel_rfl⟩
theorem FPackBack.sl22 : slB Try.prog 22 3 = true := by kernel_rfl
theorem FPackBack.agg25 : aggT Try.prog 25 3 = true := by kernel_rfl
theorem FPackBack.sc3 : scalarT Try.prog 3 = true := by kernel_rfl
theorem FPackBack.isl23 : ∃ el, Try.prog.underlying 23 = some (.slice el) := ⟨5, by kernel_rfl⟩
theorem FPackBack.call15 : callB Try.prog 15 = true := by kernel_rfl
theorem FPackBack.call14 : callB Try.prog 14 = true := by kernel_rfl
theorem FPackBack.isl43 : ∃ el, Try.prog.underlying 43 = some (.slice el) := ⟨3, by kernel_rfl⟩
theorem FPackBack.sl43 : slB Try.prog 43 1 = true := by kernel_rfl
theorem FPackBack.bool4 : boolB Try.prog 4 = true := by kernel_rfl
theorem FPackBack.call19 : callB Try.prog 19 = true := by kernel_rfl
theorem FPackBack.call25 : callB Try.prog 25 = true := by kernel_rfl
theorem FPackBack.call27 : callB Try.prog 27 = true := by kernel_rfl
theorem FPackBack.call22 : callB Try.prog 22 = true := by kernel_rfl
theorem FPackBack.call23 : callB Try.prog 23 = true := by kernel_rfl

set_option maxRecDepth 8000 in
set_option maxHeartbeats 1000000 in
theorem lethelaw11_PackBack_ok {B : Nat} {w0 w : World} {L : List Rg} {l_1 : List (Int × (List Byte) × (List Byte))} {al_1 : Option Addr} {nl_1 cl_1 il_1 : Nat} (hl_1 : LV (D25.at L) L il_1 al_1 nl_1 cl_1 l_1) {r : Bool} (hR : lethelaw11_PackBack l_1 r) (HST : St B w0 (L) w) :
    Calls Try.prog 6 #[.slice al_1 nl_1 cl_1] w fun e w' => e = .returned (.bool r) ∧ St B w0 (L) w' := by
  refine W.enter 129 Try.func6 rfl rfl rfl ?_
  unfold lethelaw11_PackBack at hR
  have hFr : Fr2 L L L L := Fr2.refl _ _
  have el_1 := hl_1.hl; subst el_1
  refine W.seq_k fun K2 hK2 => ?_
  refine W.regionT [(0, true)] (by kernel_rfl) ?_
  refine Plan.assign_bool rfl rfl ?_
  refine Plan.nil ?_
  refine hK2 _ _ ?_; clear hK2
  refine W.seq_k fun K3 hK3 => ?_
  refine W.regionT [(0, true)] (by kernel_rfl) ?_
  refine Plan.assign_slice rfl rfl ?_
  refine Plan.nil ?_
  refine hK3 _ _ ?_; clear hK3
  refine W.seq_k fun K4 hK4 => ?_
  refine W.seq_k fun K5 hK5 => ?_
  refine W.regionT [(0, true)] (by kernel_rfl) ?_
  refine Plan.assign_int rfl rfl ?_
  refine Plan.nil ?_
  refine hK5 _ _ ?_; clear hK5
  have hFj112 : Fr2 L L L L := Fr2.refl _ _
  have h113 : St B w0 (⟨none, 0, 0 * 3, fun _ => undef, true⟩ :: _) _ := HST.nilE (fun _ => undef)
  obtain ⟨x112, hI112, hR0112⟩ := hR
  refine W.cutN (fun e w => ∃ y_list111 : List (Int × (List Byte) × (List Byte)), x112 = some y_list111 ∧ ∃ CG LG : List Rg, LG = CG ++ L ∧ ∃ L : List Rg, L = LG ∧ ∃ n_list111 : Nat, ∃ alist111 : Option Addr, ∃ plist111 : Option Nat, ∃ clist111 : Nat, ∃ Flist111 : Nat → Value, EnvHas e [(0, .slice al_1 l_1.length cl_1), (3, .slice alist111 n_list111 clist111)] ∧ St B w0 (⟨plist111, 0, clist111 * 3, Flist111, true⟩ :: L) w ∧ LO (D25.at L) [] alist111 plist111 n_list111 clist111 Flist111 y_list111) ?_ ?_
  ·
    refine W.block ?_
    refine W.iter hI112 (fun (s112 : ((List (Int × (List Byte) × (List Byte))) × Nat)) e w => ∃ CG LG : List Rg, LG = CG ++ L ∧ ∃ L : List Rg, L = LG ∧ ∃ n_list108 : Nat, ∃ alist108 : Option Addr, ∃ plist108 : Option Nat, ∃ clist108 : Nat, ∃ Flist108 : Nat → Value, EnvHas e [(0, .slice al_1 l_1.length cl_1), (3, .slice alist108 n_list108 clist108), (4, VN s112.2)] ∧ St B w0 (⟨plist108, 0, clist108 * 3, Flist108, true⟩ :: L) w ∧ LO (D25.at L) [] alist108 plist108 n_list108 clist108 Flist108 s112.1) ⟨[], L, rfl, L, rfl, 0, none, none, 0, (fun _ => undef), (EnvHas.cons rfl (EnvHas.cons rfl (EnvHas.cons rfl EnvHas.nil))), h113, LO.nil⟩ ?_
    rintro ⟨list108, i_110⟩ o112 hR hx112 ev114 wl114 ⟨CG114, LG114, hlg114, L, hLe114, n_list108, alist108, plist108, clist108, Flist108, he114, h114, hlist108⟩
    try dsimp only at he114 h114 hlist108
    obtain rfl : List.length (α := (Int × (List Byte) × (List Byte))) list108 = n_list108 := hlist108.hl
    obtain ⟨ev114, rfl⟩ := he114.open
    unfold lethelaw11_PackBack_l0 at hR
    have hL114 := hLe114.trans hlg114
    replace hFr : Fr2 _ _ L L := hFr.step hL114 hL114
    replace hFj112 : Fr2 _ _ L L := hFj112.step hL114 hL114
    obtain ⟨ix116, hv116⟩ : ∃ i, LV (D25.at L) L i al_1 l_1.length cl_1 l_1 := ⟨_, by rw [hL114]; exact (LV.grow D25_lifts (fun r hr => List.mem_append_right _ hr) hl_1).app _⟩
    refine W.seq_k fun K117 hK117 => ?_
    refine W.seq_k fun K121 hK121 => ?_
    refine W.regionT [(0, true), (1, true), (2, true), (3, true), (4, true), (5, true), (6, true), (7, true)] (by kernel_rfl) ?_
    refine Plan.move_int rfl rfl ?_
    refine Plan.move_slice rfl rfl ?_
    refine Plan.len FPackBack.isl22 rfl rfl ?_
    by_cases hc122 : i_110 < l_1.length
    ·
      replace hR := ifT hR hc122
      refine Plan.cmpV (a := (((i_110 : Nat) : Int) : Int)) (b := (((l_1.length : Nat) : Int) : Int)) (p := i_110 < l_1.length) (v := true) rfl rfl rfl rfl icmp_ltN (decide_eq_true hc122) ?_
      refine Plan.move_bool rfl rfl ?_
      refine Plan.move_int rfl rfl ?_
      refine Plan.cmpP (a := (((i_110 : Nat) : Int) : Int)) (b := (60 : Int)) (p := i_110 < 60) rfl rfl rfl rfl icmp_ltN ?_
      refine Plan.pickTb rfl rfl rfl ?_
      refine Plan.nil ?_
      refine hK121 _ _ ?_; clear hK121
      by_cases hc123 : i_110 < 60
      ·
        replace hR := ifT hR hc123
        refine W.condT (congrArg Value.bool (decide_eq_true hc123)) ?_
        refine W.skip ?_
        refine hK117 _ _ ?_; clear hK117
        refine W.seq_k fun K124 hK124 => ?_
        refine W.block ?_
        refine W.seq_k fun K125 hK125 => ?_
        refine W.regionT [(0, true), (1, true), (2, true), (3, true), (4, true), (5, false), (6, false), (7, true), (8, true), (9, true), (10, true), (11, true)] (by kernel_rfl) ?_
        refine Plan.move_slice rfl rfl ?_
        refine Plan.move_slice rfl rfl ?_
        refine Plan.move_int rfl rfl ?_
        obtain ⟨hc126, hR⟩ := hR
        refine Plan.idxLVS (D := (D25.at L)) (j := i_110) h114 (hv116.app [_]) FPackBack.sl22 rfl rfl rfl hc126 ?_
        refine Plan.loadLV (D := (D25.at L)) (X := l_1) (j := i_110) (sz := 3) h114 ((0 : Int), ([] : List Byte), ([] : List Byte)) (hv116.app [_]) rfl rfl hc126 rfl FPackBack.agg25 fun b127 r127 hs127 hr127 => ?_
        obtain ⟨⟨i127_1, hv127_1⟩, ⟨i127_2, hv127_2⟩⟩ := hs127
        obtain ⟨x_129, x_130, x_131, hr128, hR⟩ := hR
        refine Plan.call (vs := [AG [(1, fun _ => .int .i64 ((l_1.getD i_110 ((0 : Int), ([] : List Byte), ([] : List Byte))).1)), (1, fun _ => .slice ((b127.1).1) (((l_1.getD i_110 ((0 : Int), ([] : List Byte), ([] : List Byte))).2.1).length) ((b127.1).2)), (1, fun _ => .slice ((b127.2).1) (((l_1.getD i_110 ((0 : Int), ([] : List Byte), ([] : List Byte))).2.2).length) ((b127.2).2))]]) rfl FPackBack.call15 rfl (lethelaw11_right_ok (LP := L) (by exact fun r hr => List.mem_append_right [_] ((fun _ h => h) r hr)) (by exact ⟨_, hv127_1⟩) (by exact ⟨_, hv127_2⟩) hr128 h114) ?_
        rintro _ w138 ⟨C138, iy0_1_132, ay0_1_133, cy0_1_134, iy0_2_135, ay0_2_136, cy0_2_137, rfl, h138, hf138_0, hf138_1⟩
        try dsimp only at hf138_0 hf138_1
        replace h138 := St.pool (N := []) (R := [_]) h138
        obtain ⟨L, hL139⟩ : ∃ X, X = C138 ++ L := ⟨_, rfl⟩
        have h139 := St.re (N := [_]) hL139 h138
        simp only [List.cons_append, List.nil_append] at h139
        replace hFr : Fr2 _ _ L L := hFr.step hL139 hL139
        replace hFj112 : Fr2 _ _ L L := hFj112.step hL139 hL139
        obtain ⟨ix140, hv140⟩ : ∃ i, LV (D25.at L) L i al_1 l_1.length cl_1 l_1 := ⟨_, by rw [hL139]; exact (LV.grow D25_lifts (fun r hr => List.mem_append_right _ hr) hv116).app _⟩
        obtain ⟨ix141, hv141⟩ : ∃ i, Bx L i ((b127.1).1) (((l_1.getD i_110 ((0 : Int), ([] : List Byte), ([] : List Byte))).2.1).length) ((b127.1).2) ((l_1.getD i_110 ((0 : Int), ([] : List Byte), ([] : List Byte))).2.1) := ⟨_, by rw [hL139]; exact hv127_1.app _⟩
        obtain ⟨ix142, hv142⟩ : ∃ i, Bx L i ((b127.2).1) (((l_1.getD i_110 ((0 : Int), ([] : List Byte), ([] : List Byte))).2.2).length) ((b127.2).2) ((l_1.getD i_110 ((0 : Int), ([] : List Byte), ([] : List Byte))).2.2) := ⟨_, by rw [hL139]; exact hv127_2.app _⟩
        have ho143 : LO (D25.at L) [] alist108 plist108 (list108).length clist108 Flist108 list108 := by rw [hL139]; exact LO.grow D25_lifts (fun r hr => List.mem_append_right _ hr) hlist108
        obtain ⟨jx144, hj144⟩ : ∃ j : Nat, L[j]? = some r127 := ⟨_, by rw [hL139]; exact flget (i := ix116) hr127 _⟩
        have hp145 : ∃ i, Bx L i ay0_1_133 x_130.length cy0_1_134 x_130 := by rw [hL139]; exact ⟨_, hf138_0⟩
        obtain ⟨ix145, hv145⟩ := hp145
        have hp146 : ∃ i, Bx L i ay0_2_136 x_131.length cy0_2_137 x_131 := by rw [hL139]; exact ⟨_, hf138_1⟩
        obtain ⟨ix146, hv146⟩ := hp146
        refine ⟨_, rfl, .inr ⟨rfl, ?_⟩⟩
        obtain ⟨x_148, x_149, hr147, hR⟩ := hR
        refine Plan.call (vs := [.slice alist108 list108.length clist108, AG [(1, fun _ => .int .i64 x_129), (1, fun _ => .slice ay0_1_133 x_130.length cy0_1_134), (1, fun _ => .slice ay0_2_136 x_131.length cy0_2_137)]]) rfl FPackBack.call19 rfl (pack_Put_ok (by exact (LV.grow D25_lifts (fun r hr => List.mem_append_right [_] ((fun _ h => h) r hr)) (LO.lvf EL.at_flat ho143 0 rfl))) (hv145.app [_]) (hv146.app [_]) hr147 h139) ?_
        rintro _ w155 ⟨C155, ay0_150, py0_151, ny0_152, cy0_153, Fy0_154, rfl, h155, hf155_0⟩
        try dsimp only at hf155_0
        replace h155 := St.pool (N := [_]) (R := [_]) h155
        obtain ⟨L, hL156⟩ : ∃ X, X = C155 ++ L := ⟨_, rfl⟩
        have h156 := St.re (N := [_, _]) hL156 h155
        simp only [List.cons_append, List.nil_append] at h156
        replace hFr : Fr2 _ _ L L := hFr.step hL156 hL156
        replace hFj112 : Fr2 _ _ L L := hFj112.step hL156 hL156
        obtain ⟨ix157, hv157⟩ : ∃ i, LV (D25.at L) L i al_1 l_1.length cl_1 l_1 := ⟨_, by rw [hL156]; exact (LV.grow D25_lifts (fun r hr => List.mem_append_right _ hr) hv140).app _⟩
        obtain ⟨ix158, hv158⟩ : ∃ i, Bx L i ((b127.1).1) (((l_1.getD i_110 ((0 : Int), ([] : List Byte), ([] : List Byte))).2.1).length) ((b127.1).2) ((l_1.getD i_110 ((0 : Int), ([] : List Byte), ([] : List Byte))).2.1) := ⟨_, by rw [hL156]; exact hv141.app _⟩
        obtain ⟨ix159, hv159⟩ : ∃ i, Bx L i ((b127.2).1) (((l_1.getD i_110 ((0 : Int), ([] : List Byte), ([] : List Byte))).2.2).length) ((b127.2).2) ((l_1.getD i_110 ((0 : Int), ([] : List Byte), ([] : List Byte))).2.2) := ⟨_, by rw [hL156]; exact hv142.app _⟩
        obtain ⟨ix160, hv160⟩ : ∃ i, Bx L i ay0_1_133 x_130.length cy0_1_134 x_130 := ⟨_, by rw [hL156]; exact hv145.app _⟩
        obtain ⟨ix161, hv161⟩ : ∃ i, Bx L i ay0_2_136 x_131.length cy0_2_137 x_131 := ⟨_, by rw [hL156]; exact hv146.app _⟩
        have ho162 : LO (D25.at L) [] alist108 plist108 (list108).length clist108 Flist108 list108 := by rw [hL156]; exact LO.grow D25_lifts (fun r hr => List.mem_append_right _ hr) ho143
        obtain rfl := hf155_0.hl
        have hd155_0 : LO (D25.at L) [] ay0_150 py0_151 (x_148).length cy0_153 Fy0_154 x_148 := LO.grow D25_lifts (fun r hr => (by rw [hL156]; exact List.mem_append_left _ hr)) hf155_0
        refine ⟨_, rfl, .inl ⟨PIn.keep PIn.nil h156, ?_⟩⟩
        refine Plan.move_tuple rfl rfl ?_
        refine Plan.extract_slice rfl rfl rfl ?_
        refine Plan.extract_int rfl rfl rfl ?_
        refine Plan.assign_slice rfl rfl ?_
        refine Plan.assign_int rfl rfl ?_
        refine Plan.nil ?_
        refine hK125 _ _ ?_; clear hK125
        refine W.seq_k fun K163 hK163 => ?_
        refine W.seq_k fun K164 hK164 => ?_
        refine W.regionT [(0, true), (1, true)] (by kernel_rfl) ?_
        refine Plan.move_int rfl rfl ?_
        refine Plan.cmpP (a := (((x_149 : Nat) : Int) : Int)) (b := (0 : Int)) (p := x_149 ≠ 0) rfl rfl rfl rfl icmp_neN ?_
        refine Plan.nil ?_
        refine hK164 _ _ ?_; clear hK164
        by_cases hc165 : x_149 ≠ 0
        ·
          replace hR := ifT hR hc165
          refine W.condT (congrArg Value.bool (decide_eq_true hc165)) ?_
          refine W.seq_k fun K166 hK166 => ?_
          refine W.regionT [(0, true)] (by kernel_rfl) ?_
          refine Plan.assign_bool rfl rfl ?_
          refine Plan.nil ?_
          refine hK166 _ _ ?_; clear hK166
          refine W.ret (thenR_ret (blockR_ret (thenR_ret (iterR_ret (blockR_ret (thenR_ret (thenR_ret (finR_ret ?_))))))))
          have h167 := St.pickT (C := [_, _]) h156 [] (by decide)
          simp only [pick, List.filterMap_cons, List.filterMap_nil, List.getElem?_cons_zero, List.getElem?_cons_succ, List.cons_append, List.nil_append] at h167
          replace hR := hR.2
          subst r
          refine RetOk.mk (.tmp_bool rfl .nil) ?_
          obtain ⟨CF, hx1, hx2⟩ := hFr
          subst hx1
          have hdr := St.dropC (N := []) h167
          exact ⟨rfl, hdr⟩
        ·
          replace hR := ifF hR hc165
          refine W.condF (congrArg Value.bool (decide_eq_false hc165)) ?_
          refine W.skip ?_
          refine hK163 _ _ ?_; clear hK163
          refine W.regionT [(0, true), (1, true)] (by kernel_rfl) ?_
          refine Plan.move_slice rfl rfl ?_
          refine Plan.assign_slice rfl rfl ?_
          refine Plan.nil ?_
          refine blockR_norm ?_
          refine hK124 _ _ ?_; clear hK124
          refine W.regionT [(0, true), (1, true), (2, true)] (by kernel_rfl) ?_
          refine Plan.move_int rfl rfl ?_
          refine Plan.addN (a := i_110) (b := 1) rfl rfl rfl (by omega) ?_
          refine Plan.assign_int rfl rfl ?_
          refine Plan.nil ?_
          have h168 := St.pickT (C := [_, _]) h156 [0] (by decide)
          simp only [pick, List.filterMap_cons, List.filterMap_nil, List.getElem?_cons_zero, List.getElem?_cons_succ, List.cons_append, List.nil_append] at h168
          obtain ⟨CF169, hx169, hy169⟩ := hFj112
          exact iterR_norm ⟨_, hR, CF169, L, hx169, L, rfl, x_148.length, ay0_150, py0_151, cy0_153, Fy0_154, (EnvHas.cons rfl (EnvHas.cons rfl (EnvHas.cons rfl EnvHas.nil))), h168, hd155_0⟩
      ·
        replace hR := ifF hR hc123
        refine W.condF (congrArg Value.bool (decide_eq_false hc123)) ?_
        refine W.exit (thenR_exit (iterR_exit (blockR_here ?_)))
        obtain ⟨CF170, hx170, hy170⟩ := hFj112
        exact ⟨list108, (hx112 _ hR).symm, CF170, L, hx170, L, rfl, list108.length, alist108, plist108, clist108, Flist108, (EnvHas.cons rfl (EnvHas.cons rfl EnvHas.nil)), h114, hlist108⟩
    ·
      replace hR := ifF hR hc122
      refine Plan.cmpV (a := (((i_110 : Nat) : Int) : Int)) (b := (((l_1.length : Nat) : Int) : Int)) (p := i_110 < l_1.length) (v := false) rfl rfl rfl rfl icmp_ltN (decide_eq_false hc122) ?_
      refine Plan.move_bool rfl rfl ?_
      refine Plan.passed rfl ?_
      refine Plan.passed rfl ?_
      refine Plan.pickFb rfl rfl rfl ?_
      refine Plan.nil ?_
      refine hK121 _ _ ?_; clear hK121
      refine W.condF rfl ?_
      refine W.exit (thenR_exit (iterR_exit (blockR_here ?_)))
      obtain ⟨CF171, hx171, hy171⟩ := hFj112
      exact ⟨list108, (hx112 _ hR).symm, CF171, L, hx171, L, rfl, list108.length, alist108, plist108, clist108, Flist108, (EnvHas.cons rfl (EnvHas.cons rfl EnvHas.nil)), h114, hlist108⟩
  ·
    rintro ev172 wl172 ⟨y_list111, hy172, CG172, LG172, hlg172, L, hLe172, n_list111, alist111, plist111, clist111, Flist111, he172, h172, hlist111⟩
    obtain ⟨ev172, rfl⟩ := he172.open
    replace hR := hR0112 y_list111 hy172
    obtain ⟨list111, e_list111⟩ : ∃ z, z = y_list111 := ⟨_, rfl⟩; subst e_list111
    obtain rfl : List.length (α := (Int × (List Byte) × (List Byte))) list111 = n_list111 := hlist111.hl
    have hL172 := hLe172.trans hlg172
    replace hFr : Fr2 _ _ L L := hFr.step hL172 hL172
    replace hFj112 : Fr2 _ _ L L := hFj112.step hL172 hL172
    obtain ⟨ix174, hv174⟩ : ∃ i, LV (D25.at L) L i al_1 l_1.length cl_1 l_1 := ⟨_, by rw [hL172]; exact (LV.grow D25_lifts (fun r hr => List.mem_append_right _ hr) hl_1).app _⟩
    refine hK4 _ _ ?_; clear hK4
    refine W.seq_k fun K175 hK175 => ?_
    refine W.regionT [(0, true), (1, false), (2, true)] (by kernel_rfl) ?_
    refine Plan.move_slice rfl rfl ?_
    obtain ⟨x_177, hr176, hR⟩ := hR
    refine Plan.call (vs := [.slice al_1 l_1.length cl_1]) rfl FPackBack.call14 rfl (lethelaw11_sorted_ok (LP := L) (by exact fun r hr => List.mem_append_right [_] ((fun _ h => h) r hr)) (by exact (hv174.app [_])) hr176 h172) ?_
    rintro _ w183 ⟨C183, ay0_178, py0_179, ny0_180, cy0_181, Fy0_182, rfl, h183, hf183_0⟩
    replace h183 := St.pool (N := [_]) (R := [_]) h183
    obtain ⟨L, hL184⟩ : ∃ X, X = C183 ++ L := ⟨_, rfl⟩
    have h184 := St.re (N := [_, _]) hL184 h183
    simp only [List.cons_append, List.nil_append] at h184
    replace hFr : Fr2 _ _ L L := hFr.step hL184 hL184
    replace hFj112 : Fr2 _ _ L L := hFj112.step hL184 hL184
    obtain ⟨ix185, hv185⟩ : ∃ i, LV (D25.at L) L i al_1 l_1.length cl_1 l_1 := ⟨_, by rw [hL184]; exact (LV.grow D25_lifts (fun r hr => List.mem_append_right _ hr) hv174).app _⟩
    have ho186 : LO (D25.at L) [] alist111 plist111 (list111).length clist111 Flist111 list111 := by rw [hL184]; exact LO.grow D25_lifts (fun r hr => List.mem_append_right _ hr) hlist111
    obtain rfl := hf183_0.hl
    have hd183_0 : LO (D25.at L) [] ay0_178 py0_179 (x_177).length cy0_181 Fy0_182 x_177 := LO.grow D25_lifts (fun r hr => (by rw [hL184]; exact hr)) hf183_0
    refine ⟨_, rfl, .inl ⟨PIn.keep PIn.nil h184, ?_⟩⟩
    refine Plan.assign_slice rfl rfl ?_
    refine Plan.nil ?_
    refine hK175 _ _ ?_; clear hK175
    refine W.seq_k fun K187 hK187 => ?_
    refine W.regionT [(0, true), (1, false), (2, true), (3, true), (4, true), (5, true), (6, true)] (by kernel_rfl) ?_
    refine Plan.move_slice rfl rfl ?_
    obtain ⟨x_189, x_190, hr188, hR⟩ := hR
    refine Plan.call (vs := [.slice alist111 list111.length clist111]) rfl FPackBack.call25 rfl (pack_Pack_ok (by exact (LV.grow D25_lifts (fun r hr => List.mem_append_right [_, _] ((fun _ h => h) r hr)) (LO.lvf EL.at_flat ho186 1 rfl))) hr188 h184) ?_
    rintro _ w196 ⟨ay0_191, py0_192, ny0_193, cy0_194, Fy0_195, rfl, h196, hf196_0⟩
    try dsimp only at hf196_0
    obtain rfl := hf196_0.hl
    refine ⟨_, rfl, .inl ⟨PIn.keep PIn.nil h196, ?_⟩⟩
    refine Plan.move_tuple rfl rfl ?_
    refine Plan.extract_slice rfl rfl rfl ?_
    refine Plan.extract_int rfl rfl rfl ?_
    refine Plan.assign_slice rfl rfl ?_
    refine Plan.assign_int rfl rfl ?_
    refine Plan.nil ?_
    refine hK187 _ _ ?_; clear hK187
    refine W.seq_k fun K197 hK197 => ?_
    refine W.seq_k fun K208 hK208 => ?_
    refine W.regionT [(0, true), (1, true), (2, true), (3, true), (4, true), (5, false), (6, true), (7, true), (8, true), (9, true), (10, true), (11, true), (12, true), (13, true), (14, true), (15, true), (16, true)] (by kernel_rfl) ?_
    refine Plan.move_int rfl rfl ?_
    by_cases hc209 : x_190 ≠ 0
    ·
      replace hR := ifT hR hc209
      refine Plan.cmpV (a := (((x_190 : Nat) : Int) : Int)) (b := (0 : Int)) (p := x_190 ≠ 0) (v := true) rfl rfl rfl rfl icmp_neN (decide_eq_true hc209) ?_
      refine Plan.move_bool rfl rfl ?_
      refine Plan.passed rfl ?_
      refine Plan.passed rfl ?_
      refine Plan.passed rfl ?_
      refine Plan.passed rfl ?_
      refine Plan.pickTb rfl rfl rfl ?_
      refine Plan.move_bool rfl rfl ?_
      refine Plan.passed rfl ?_
      refine Plan.passed rfl ?_
      refine Plan.passed rfl ?_
      refine Plan.passed rfl ?_
      refine Plan.passed rfl ?_
      refine Plan.passed rfl ?_
      refine Plan.passed rfl ?_
      refine Plan.pickTb rfl rfl rfl ?_
      refine Plan.nil ?_
      refine hK208 _ _ ?_; clear hK208
      refine W.condT rfl ?_
      refine W.seq_k fun K210 hK210 => ?_
      refine W.regionT [(0, true)] (by kernel_rfl) ?_
      refine Plan.assign_bool rfl rfl ?_
      refine Plan.nil ?_
      refine hK210 _ _ ?_; clear hK210
      refine W.ret (thenR_ret (finR_ret ?_))
      have h211 := St.pickT (C := [_, _, _]) h196 [] (by decide)
      simp only [pick, List.filterMap_cons, List.filterMap_nil, List.getElem?_cons_zero, List.getElem?_cons_succ, List.cons_append, List.nil_append] at h211
      subst r
      refine RetOk.mk (.tmp_bool rfl .nil) ?_
      obtain ⟨CF, hx1, hx2⟩ := hFr
      subst hx1
      have hdr := St.dropC (N := []) h211
      exact ⟨rfl, hdr⟩
    ·
      replace hR := ifF hR hc209
      refine Plan.cmpV (a := (((x_190 : Nat) : Int) : Int)) (b := (0 : Int)) (p := x_190 ≠ 0) (v := false) rfl rfl rfl rfl icmp_neN (decide_eq_false hc209) ?_
      refine Plan.move_bool rfl rfl ?_
      refine Plan.move_slice rfl rfl ?_
      refine Plan.move_slice rfl rfl ?_
      obtain ⟨x_213, hr212, hR⟩ := hR
      refine Plan.call (vs := [.slice alist111 list111.length clist111, .slice ay0_178 x_177.length cy0_181]) rfl FPackBack.call27 rfl (lethelaw11_Same_ok (by exact (LV.grow D25_lifts (fun r hr => List.mem_append_right [_, _, _] ((fun _ h => h) r hr)) (LO.lvf EL.at_flat ho186 2 rfl))) (by exact (LV.grow D25_lifts (fun r hr => List.mem_append_right [_, _, _] ((fun _ h => h) r hr)) (LO.lvf EL.at_flat hd183_0 1 rfl))) hr212 h196) ?_
      rintro _ w214 ⟨rfl, h214⟩
      refine ⟨_, rfl, .inl ⟨PIn.keep PIn.nil h214, ?_⟩⟩
      by_cases hc215 : x_213 = true
      ·
        replace hR := ifT hR hc215
        obtain rfl : x_213 = true := hc215
        refine Plan.notT rfl rfl ?_
        refine Plan.pickFb rfl rfl rfl ?_
        refine Plan.move_bool rfl rfl ?_
        refine Plan.move_slice rfl rfl ?_
        refine Plan.len FPackBack.isl43 rfl rfl ?_
        refine Plan.cmpP (a := (((x_189.length : Nat) : Int) : Int)) (b := (0 : Int)) (p := 0 < x_189.length) rfl rfl rfl rfl icmp_gtN ?_
        refine Plan.move_slice rfl rfl ?_
        refine Plan.len FPackBack.isl22 rfl rfl ?_
        refine Plan.cmpP (a := (((x_177.length : Nat) : Int) : Int)) (b := (0 : Int)) (p := 0 < x_177.length) rfl rfl rfl rfl icmp_gtN ?_
        refine Plan.neBoolV (v := ((decide (0 < x_189.length)) != (decide (0 < x_177.length)))) FPackBack.bool4 rfl rfl rfl rfl ?_
        refine Plan.pickFb rfl rfl rfl ?_
        refine Plan.nil ?_
        refine hK208 _ _ ?_; clear hK208
        by_cases hc216 : ((decide (0 < x_189.length)) != (decide (0 < x_177.length))) = true
        ·
          replace hR := ifT hR hc216
          refine W.condT (congrArg Value.bool hc216) ?_
          refine W.seq_k fun K217 hK217 => ?_
          refine W.regionT [(0, true)] (by kernel_rfl) ?_
          refine Plan.assign_bool rfl rfl ?_
          refine Plan.nil ?_
          refine hK217 _ _ ?_; clear hK217
          refine W.ret (thenR_ret (finR_ret ?_))
          have h218 := St.pickT (C := [_, _, _]) h214 [] (by decide)
          simp only [pick, List.filterMap_cons, List.filterMap_nil, List.getElem?_cons_zero, List.getElem?_cons_succ, List.cons_append, List.nil_append] at h218
          subst r
          refine RetOk.mk (.tmp_bool rfl .nil) ?_
          obtain ⟨CF, hx1, hx2⟩ := hFr
          subst hx1
          have hdr := St.dropC (N := []) h218
          exact ⟨rfl, hdr⟩
        ·
          replace hR := ifF hR hc216
          refine W.condF (congrArg Value.bool (Bool.eq_false_iff.2 hc216)) ?_
          refine W.skip ?_
          refine hK197 _ _ ?_; clear hK197
          refine W.seq_k fun K219 hK219 => ?_
          refine W.regionT [(0, true)] (by kernel_rfl) ?_
          refine Plan.assign_int rfl rfl ?_
          refine Plan.nil ?_
          refine hK219 _ _ ?_; clear hK219
          refine W.seq_k fun K220 hK220 => ?_
          refine W.seq_k fun K221 hK221 => ?_
          refine W.regionT [(0, true)] (by kernel_rfl) ?_
          refine Plan.assign_int rfl rfl ?_
          refine Plan.nil ?_
          refine hK221 _ _ ?_; clear hK221
          have hFj397 : Fr2 L L L L := Fr2.refl _ _
          obtain ⟨x397, hI397, hR0397⟩ := hR
          refine W.cutN (fun e w => ∃ y_at_396 : Int, x397 = some y_at_396 ∧ ∃ CG LG : List Rg, LG = CG ++ L ∧ ∃ L : List Rg, L = LG ∧ EnvHas e [(7, .slice ay0_178 x_177.length cy0_181), (10, .int .i64 y_at_396)] ∧ St B w0 (⟨py0_179, 0, cy0_181 * 3, Fy0_182, true⟩ :: L) w) ?_ ?_
          ·
            refine W.block ?_
            refine W.iter hI397 (fun (s397 : (Int × Nat)) e w => ∃ CG LG : List Rg, LG = CG ++ L ∧ ∃ L : List Rg, L = LG ∧ EnvHas e [(3, .slice alist111 list111.length clist111), (7, .slice ay0_178 x_177.length cy0_181), (8, .slice ay0_191 x_189.length cy0_194), (10, .int .i64 s397.1), (11, VN s397.2)] ∧ St B w0 (⟨py0_192, 0, cy0_194 * 1, Fy0_195, true⟩ :: ⟨py0_179, 0, cy0_181 * 3, Fy0_182, true⟩ :: ⟨plist111, 0, clist111 * 3, Flist111, true⟩ :: L) w) ⟨[], L, rfl, L, rfl, (EnvHas.cons rfl (EnvHas.cons rfl (EnvHas.cons rfl (EnvHas.cons rfl (EnvHas.cons rfl EnvHas.nil))))), h214⟩ ?_
            rintro ⟨at_394, i_395⟩ o397 hR hx397 ev398 wl398 ⟨CG398, LG398, hlg398, L, hLe398, he398, h398⟩
            obtain ⟨ev398, rfl⟩ := he398.open
            unfold lethelaw11_PackBack_l1 at hR
            have hL398 := hLe398.trans hlg398
            replace hFr : Fr2 _ _ L L := hFr.step hL398 hL398
            replace hFj112 : Fr2 _ _ L L := hFj112.step hL398 hL398
            replace hFj397 : Fr2 _ _ L L := hFj397.step hL398 hL398
            have ho400 : LO (D25.at L) [] ay0_178 py0_179 (x_177).length cy0_181 Fy0_182 x_177 := by rw [hL398]; exact LO.grow D25_lifts (fun r hr => List.mem_append_right _ hr) hd183_0
            have ho401 : LO (D25.at L) [] alist111 plist111 (list111).length clist111 Flist111 list111 := by rw [hL398]; exact LO.grow D25_lifts (fun r hr => List.mem_append_right _ hr) ho186
            refine W.seq_k fun K402 hK402 => ?_
            refine W.seq_k fun K403 hK403 => ?_
            refine W.regionT [(0, true), (1, true), (2, true), (3, true)] (by kernel_rfl) ?_
            refine Plan.move_int rfl rfl ?_
            refine Plan.move_slice rfl rfl ?_
            refine Plan.len FPackBack.isl43 rfl rfl ?_
            refine Plan.cmpP (a := (((i_395 : Nat) : Int) : Int)) (b := (((x_189.length : Nat) : Int) : Int)) (p := i_395 < x_189.length) rfl rfl rfl rfl icmp_ltN ?_
            refine Plan.nil ?_
            refine hK403 _ _ ?_; clear hK403
            by_cases hc404 : i_395 < x_189.length
            ·
              replace hR := ifT hR hc404
              refine W.condT (congrArg Value.bool (decide_eq_true hc404)) ?_
              refine W.skip ?_
              refine hK402 _ _ ?_; clear hK402
              refine W.seq_k fun K405 hK405 => ?_
              refine W.block ?_
              refine W.seq_k fun K406 hK406 => ?_
              refine W.regionT [(0, true), (1, true), (2, true), (3, true), (4, true)] (by kernel_rfl) ?_
              refine Plan.move_slice rfl rfl ?_
              refine Plan.move_int rfl rfl ?_
              obtain ⟨hc407, hR⟩ := hR
              refine Plan.idxLVS (D := D3) (j := i_395) h398 (LO.lvf D3_flat hf196_0 0 rfl) FPackBack.sl43 rfl rfl rfl hc407 ?_
              refine Plan.loadLV1 (D := D3) (X := x_189) (j := i_395) h398 (0 : Int) (fun _ x => .int .i64 x) (LO.lvf D3_flat hf196_0 0 rfl) rfl rfl hc407 rfl (fun _ _ => rfl) FPackBack.sc3 fun b408 r408 hs408 hr408 => ?_
              refine Plan.assign_int rfl rfl ?_
              refine Plan.nil ?_
              refine hK406 _ _ ?_; clear hK406
              refine W.seq_k fun K409 hK409 => ?_
              refine W.seq_k fun K416 hK416 => ?_
              refine W.regionT [(0, true), (1, true), (2, true), (3, true), (4, true), (5, true), (6, true), (7, true), (8, true), (9, true)] (by kernel_rfl) ?_
              refine Plan.move_int rfl rfl ?_
              by_cases hc417 : (x_189.getD i_395 (0 : Int)) < 1
              ·
                replace hR := ifT hR hc417
                refine Plan.cmpV (a := ((x_189.getD i_395 (0 : Int)) : Int)) (b := (1 : Int)) (p := (x_189.getD i_395 (0 : Int)) < 1) (v := true) rfl rfl rfl rfl icmp_lt (decide_eq_true hc417) ?_
                refine Plan.move_bool rfl rfl ?_
                refine Plan.passed rfl ?_
                refine Plan.passed rfl ?_
                refine Plan.passed rfl ?_
                refine Plan.passed rfl ?_
                refine Plan.passed rfl ?_
                refine Plan.passed rfl ?_
                refine Plan.pickTb rfl rfl rfl ?_
                refine Plan.nil ?_
                refine hK416 _ _ ?_; clear hK416
                refine W.condT rfl ?_
                refine W.seq_k fun K418 hK418 => ?_
                refine W.regionT [(0, true)] (by kernel_rfl) ?_
                refine Plan.assign_bool rfl rfl ?_
                refine Plan.nil ?_
                refine hK418 _ _ ?_; clear hK418
                refine W.ret (thenR_ret (blockR_ret (thenR_ret (iterR_ret (blockR_ret (thenR_ret (thenR_ret (finR_ret ?_))))))))
                have h419 := St.pickT (C := [_, _, _]) h398 [] (by decide)
                simp only [pick, List.filterMap_cons, List.filterMap_nil, List.getElem?_cons_zero, List.getElem?_cons_succ, List.cons_append, List.nil_append] at h419
                replace hR := hR.2
                subst r
                refine RetOk.mk (.tmp_bool rfl .nil) ?_
                obtain ⟨CF, hx1, hx2⟩ := hFr
                subst hx1
                have hdr := St.dropC (N := []) h419
                exact ⟨rfl, hdr⟩
              ·
                replace hR := ifF hR hc417
                refine Plan.cmpV (a := ((x_189.getD i_395 (0 : Int)) : Int)) (b := (1 : Int)) (p := (x_189.getD i_395 (0 : Int)) < 1) (v := false) rfl rfl rfl rfl icmp_lt (decide_eq_false hc417) ?_
                refine Plan.move_bool rfl rfl ?_
                refine Plan.move_int rfl rfl ?_
                refine Plan.move_int rfl rfl ?_
                obtain ⟨hc420, hR⟩ := hR
                refine Plan.addI (a := at_394) (b := (x_189.getD i_395 (0 : Int))) rfl rfl rfl (by omega) ?_
                refine Plan.move_slice rfl rfl ?_
                refine Plan.len FPackBack.isl22 rfl rfl ?_
                refine Plan.cmpP (a := ((at_394 + (x_189.getD i_395 (0 : Int))) : Int)) (b := (((x_177.length : Nat) : Int) : Int)) (p := ((x_177.length : Nat) : Int) < (at_394 + (x_189.getD i_395 (0 : Int)))) rfl rfl rfl rfl icmp_gt ?_
                refine Plan.pickFb rfl rfl rfl ?_
                refine Plan.nil ?_
                refine hK416 _ _ ?_; clear hK416
                by_cases hc421 : ((x_177.length : Nat) : Int) < (at_394 + (x_189.getD i_395 (0 : Int)))
                ·
                  replace hR := ifT hR hc421
                  refine W.condT (congrArg Value.bool (decide_eq_true hc421)) ?_
                  refine W.seq_k fun K422 hK422 => ?_
                  refine W.regionT [(0, true)] (by kernel_rfl) ?_
                  refine Plan.assign_bool rfl rfl ?_
                  refine Plan.nil ?_
                  refine hK422 _ _ ?_; clear hK422
                  refine W.ret (thenR_ret (blockR_ret (thenR_ret (iterR_ret (blockR_ret (thenR_ret (thenR_ret (finR_ret ?_))))))))
                  have h423 := St.pickT (C := [_, _, _]) h398 [] (by decide)
                  simp only [pick, List.filterMap_cons, List.filterMap_nil, List.getElem?_cons_zero, List.getElem?_cons_succ, List.cons_append, List.nil_append] at h423
                  replace hR := hR.2
                  subst r
                  refine RetOk.mk (.tmp_bool rfl .nil) ?_
                  obtain ⟨CF, hx1, hx2⟩ := hFr
                  subst hx1
                  have hdr := St.dropC (N := []) h423
                  exact ⟨rfl, hdr⟩
                ·
                  replace hR := ifF hR hc421
                  refine W.condF (congrArg Value.bool (decide_eq_false hc421)) ?_
                  refine W.skip ?_
                  refine hK409 _ _ ?_; clear hK409
                  refine W.seq_k fun K424 hK424 => ?_
                  refine W.regionT [(0, true), (1, true), (2, true), (3, true), (4, true), (5, true), (6, false), (7, true), (8, true), (9, true), (10, true), (11, true)] (by kernel_rfl) ?_
                  refine Plan.move_slice rfl rfl ?_
                  refine Plan.move_int rfl rfl ?_
                  refine Plan.move_int rfl rfl ?_
                  refine Plan.move_int rfl rfl ?_
                  obtain ⟨hc425, hR⟩ := hR
                  refine Plan.addI (a := at_394) (b := (x_189.getD i_395 (0 : Int))) rfl rfl rfl (by omega) ?_
                  obtain ⟨hc426, hR⟩ := hR
                  obtain ⟨hc427, hR⟩ := hR
                  obtain ⟨hc428, hR⟩ := hR
                  have hm429 := ho401.hc
                  refine Plan.slSl (lo := at_394.toNat) (hi := (at_394 + (x_189.getD i_395 (0 : Int))).toNat) FPackBack.sl22 rfl rfl ⟨_, congrArg (Value.int .i64) (Int.toNat_of_nonneg hc426).symm⟩ ⟨_, congrArg (Value.int .i64) (Int.toNat_of_nonneg hc427).symm⟩ (by omega) ?_
                  obtain ⟨x_431, x_432, hr430, hR⟩ := hR
                  refine Plan.call (vs := [.slice (if clist111 = at_394.toNat then (alist111 : Option Addr) else (alist111 : Option Addr).map (·.add (at_394.toNat * 3))) ((at_394 + (x_189.getD i_395 (0 : Int))).toNat - at_394.toNat) (clist111 - at_394.toNat)]) rfl FPackBack.call22 rfl (pack_Encode_ok (by exact (LV.grow D25_lifts (fun r hr => List.mem_append_right [_, _, _] ((fun _ h => h) r hr)) (LV.sgl (LO.lvf EL.at_flat ho401 2 rfl) (lo := at_394.toNat) (hi := (at_394 + (x_189.getD i_395 (0 : Int))).toNat) hc428))) hr430 h398) ?_
                  rintro _ w438 ⟨ay0_433, py0_434, ny0_435, cy0_436, Fy0_437, rfl, h438, hf438_0⟩
                  try dsimp only at hf438_0
                  obtain rfl := hf438_0.hl
                  refine ⟨_, rfl, .inl ⟨PIn.keep PIn.nil h438, ?_⟩⟩
                  refine Plan.move_tuple rfl rfl ?_
                  refine Plan.extract_slice rfl rfl rfl ?_
                  refine Plan.extract_int rfl rfl rfl ?_
                  refine Plan.assign_slice rfl rfl ?_
                  refine Plan.assign_int rfl rfl ?_
                  refine Plan.nil ?_
                  refine hK424 _ _ ?_; clear hK424
                  refine W.seq_k fun K439 hK439 => ?_
                  refine W.regionT [(0, true), (1, true), (2, false), (3, true), (4, true), (5, true), (6, true), (7, true)] (by kernel_rfl) ?_
                  refine Plan.move_int rfl rfl ?_
                  refine Plan.move_slice rfl rfl ?_
                  obtain ⟨x_441, x_442, hr440, hR⟩ := hR
                  refine Plan.call (vs := [.int .i64 (x_189.getD i_395 (0 : Int)), .slice ay0_433 x_431.length cy0_436]) rfl FPackBack.call23 rfl (pack_Decode_ok (by exact (hf438_0.bx 0 rfl)) hr440 h438) ?_
                  rintro _ w448 ⟨C448, ay0_443, py0_444, ny0_445, cy0_446, Fy0_447, rfl, h448, hf448_0⟩
                  try dsimp only at hf448_0
                  replace h448 := St.pool (N := [_]) (R := [_, _, _, _]) h448
                  obtain ⟨L, hL449⟩ : ∃ X, X = C448 ++ L := ⟨_, rfl⟩
                  have h449 := St.re (N := [_, _, _, _, _]) hL449 h448
                  simp only [List.cons_append, List.nil_append] at h449
                  replace hFr : Fr2 _ _ L L := hFr.step hL449 hL449
                  replace hFj112 : Fr2 _ _ L L := hFj112.step hL449 hL449
                  replace hFj397 : Fr2 _ _ L L := hFj397.step hL449 hL449
                  have ho450 : LO (D25.at L) [] ay0_178 py0_179 (x_177).length cy0_181 Fy0_182 x_177 := by rw [hL449]; exact LO.grow D25_lifts (fun r hr => List.mem_append_right _ hr) ho400
                  have ho451 : LO (D25.at L) [] alist111 plist111 (list111).length clist111 Flist111 list111 := by rw [hL449]; exact LO.grow D25_lifts (fun r hr => List.mem_append_right _ hr) ho401
                  obtain rfl := hf448_0.hl
                  have hd448_0 : LO (D25.at L) [] ay0_443 py0_444 (x_441).length cy0_446 Fy0_447 x_441 := LO.grow D25_lifts (fun r hr => (by rw [hL449]; exact List.mem_append_left _ hr)) hf448_0
                  refine ⟨_, rfl, .inl ⟨PIn.keep PIn.nil h449, ?_⟩⟩
                  refine Plan.move_tuple rfl rfl ?_
                  refine Plan.extract_slice rfl rfl rfl ?_
                  refine Plan.extract_int rfl rfl rfl ?_
                  refine Plan.assign_slice rfl rfl ?_
                  refine Plan.assign_int rfl rfl ?_
                  refine Plan.nil ?_
                  refine hK439 _ _ ?_; clear hK439
                  refine W.seq_k fun K452 hK452 => ?_
                  refine W.seq_k fun K470 hK470 => ?_
                  refine W.regionT [(0, true), (1, true), (2, true), (3, true), (4, true), (5, true), (6, true), (7, true), (8, true), (9, true), (10, true), (11, true), (12, true), (13, true), (14, true), (15, true), (16, true), (17, true), (18, true), (19, false), (20, true), (21, true)] (by kernel_rfl) ?_
                  refine Plan.move_int rfl rfl ?_
                  by_cases hc471 : x_432 ≠ 0
                  ·
                    replace hR := ifT hR hc471
                    refine Plan.cmpV (a := (((x_432 : Nat) : Int) : Int)) (b := (0 : Int)) (p := x_432 ≠ 0) (v := true) rfl rfl rfl rfl icmp_neN (decide_eq_true hc471) ?_
                    refine Plan.move_bool rfl rfl ?_
                    refine Plan.passed rfl ?_
                    refine Plan.passed rfl ?_
                    refine Plan.pickTb rfl rfl rfl ?_
                    refine Plan.move_bool rfl rfl ?_
                    refine Plan.passed rfl ?_
                    refine Plan.passed rfl ?_
                    refine Plan.passed rfl ?_
                    refine Plan.pickTb rfl rfl rfl ?_
                    refine Plan.move_bool rfl rfl ?_
                    refine Plan.passed rfl ?_
                    refine Plan.passed rfl ?_
                    refine Plan.passed rfl ?_
                    refine Plan.passed rfl ?_
                    refine Plan.passed rfl ?_
                    refine Plan.passed rfl ?_
                    refine Plan.passed rfl ?_
                    refine Plan.passed rfl ?_
                    refine Plan.passed rfl ?_
                    refine Plan.pickTb rfl rfl rfl ?_
                    refine Plan.nil ?_
                    refine hK470 _ _ ?_; clear hK470
                    refine W.condT rfl ?_
                    refine W.seq_k fun K472 hK472 => ?_
                    refine W.regionT [(0, true)] (by kernel_rfl) ?_
                    refine Plan.assign_bool rfl rfl ?_
                    refine Plan.nil ?_
                    refine hK472 _ _ ?_; clear hK472
                    refine W.ret (thenR_ret (blockR_ret (thenR_ret (iterR_ret (blockR_ret (thenR_ret (thenR_ret (finR_ret ?_))))))))
                    have h473 := St.pickT (C := [_, _, _, _, _]) h449 [] (by decide)
                    simp only [pick, List.filterMap_cons, List.filterMap_nil, List.getElem?_cons_zero, List.getElem?_cons_succ, List.cons_append, List.nil_append] at h473
                    replace hR := hR.2
                    subst r
                    refine RetOk.mk (.tmp_bool rfl .nil) ?_
                    obtain ⟨CF, hx1, hx2⟩ := hFr
                    subst hx1
                    have hdr := St.dropC (N := []) h473
                    exact ⟨rfl, hdr⟩
                  ·
                    replace hR := ifF hR hc471
                    refine Plan.cmpV (a := (((x_432 : Nat) : Int) : Int)) (b := (0 : Int)) (p := x_432 ≠ 0) (v := false) rfl rfl rfl rfl icmp_neN (decide_eq_false hc471) ?_
                    refine Plan.move_bool rfl rfl ?_
                    refine Plan.move_int rfl rfl ?_
                    by_cases hc474 : x_442 ≠ 0
                    ·
                      replace hR := ifT hR hc474
                      refine Plan.cmpV (a := (((x_442 : Nat) : Int) : Int)) (b := (0 : Int)) (p := x_442 ≠ 0) (v := true) rfl rfl rfl rfl icmp_neN (decide_eq_true hc474) ?_
                      refine Plan.pickFb rfl rfl rfl ?_
                      refine Plan.move_bool rfl rfl ?_
                      refine Plan.passed rfl ?_
                      refine Plan.passed rfl ?_
                      refine Plan.passed rfl ?_
                      refine Plan.pickTb rfl rfl rfl ?_
                      refine Plan.move_bool rfl rfl ?_
                      refine Plan.passed rfl ?_
                      refine Plan.passed rfl ?_
                      refine Plan.passed rfl ?_
                      refine Plan.passed rfl ?_
                      refine Plan.passed rfl ?_
                      refine Plan.passed rfl ?_
                      refine Plan.passed rfl ?_
                      refine Plan.passed rfl ?_
                      refine Plan.passed rfl ?_
                      refine Plan.pickTb rfl rfl rfl ?_
                      refine Plan.nil ?_
                      refine hK470 _ _ ?_; clear hK470
                      refine W.condT rfl ?_
                      refine W.seq_k fun K475 hK475 => ?_
                      refine W.regionT [(0, true)] (by kernel_rfl) ?_
                      refine Plan.assign_bool rfl rfl ?_
                      refine Plan.nil ?_
                      refine hK475 _ _ ?_; clear hK475
                      refine W.ret (thenR_ret (blockR_ret (thenR_ret (iterR_ret (blockR_ret (thenR_ret (thenR_ret (finR_ret ?_))))))))
                      have h476 := St.pickT (C := [_, _, _, _, _]) h449 [] (by decide)
                      simp only [pick, List.filterMap_cons, List.filterMap_nil, List.getElem?_cons_zero, List.getElem?_cons_succ, List.cons_append, List.nil_append] at h476
                      replace hR := hR.2
                      subst r
                      refine RetOk.mk (.tmp_bool rfl .nil) ?_
                      obtain ⟨CF, hx1, hx2⟩ := hFr
                      subst hx1
                      have hdr := St.dropC (N := []) h476
                      exact ⟨rfl, hdr⟩
                    ·
                      replace hR := ifF hR hc474
                      refine Plan.cmpV (a := (((x_442 : Nat) : Int) : Int)) (b := (0 : Int)) (p := x_442 ≠ 0) (v := false) rfl rfl rfl rfl icmp_neN (decide_eq_false hc474) ?_
                      refine Plan.pickFb rfl rfl rfl ?_
                      refine Plan.move_bool rfl rfl ?_
                      refine Plan.move_slice rfl rfl ?_
                      refine Plan.len FPackBack.isl23 rfl rfl ?_
                      by_cases hc477 : x_431.length ≠ 1008
                      ·
                        replace hR := ifT hR hc477
                        refine Plan.cmpV (a := (((x_431.length : Nat) : Int) : Int)) (b := (1008 : Int)) (p := x_431.length ≠ 1008) (v := true) rfl rfl rfl rfl icmp_neN (decide_eq_true hc477) ?_
                        refine Plan.pickFb rfl rfl rfl ?_
                        refine Plan.move_bool rfl rfl ?_
                        refine Plan.passed rfl ?_
                        refine Plan.passed rfl ?_
                        refine Plan.passed rfl ?_
                        refine Plan.passed rfl ?_
                        refine Plan.passed rfl ?_
                        refine Plan.passed rfl ?_
                        refine Plan.passed rfl ?_
                        refine Plan.passed rfl ?_
                        refine Plan.passed rfl ?_
                        refine Plan.pickTb rfl rfl rfl ?_
                        refine Plan.nil ?_
                        refine hK470 _ _ ?_; clear hK470
                        refine W.condT rfl ?_
                        refine W.seq_k fun K478 hK478 => ?_
                        refine W.regionT [(0, true)] (by kernel_rfl) ?_
                        refine Plan.assign_bool rfl rfl ?_
                        refine Plan.nil ?_
                        refine hK478 _ _ ?_; clear hK478
                        refine W.ret (thenR_ret (blockR_ret (thenR_ret (iterR_ret (blockR_ret (thenR_ret (thenR_ret (finR_ret ?_))))))))
                        have h479 := St.pickT (C := [_, _, _, _, _]) h449 [] (by decide)
                        simp only [pick, List.filterMap_cons, List.filterMap_nil, List.getElem?_cons_zero, List.getElem?_cons_succ, List.cons_append, List.nil_append] at h479
                        replace hR := hR.2
                        subst r
                        refine RetOk.mk (.tmp_bool rfl .nil) ?_
                        obtain ⟨CF, hx1, hx2⟩ := hFr
                        subst hx1
                        have hdr := St.dropC (N := []) h479
                        exact ⟨rfl, hdr⟩
                      ·
                        replace hR := ifF hR hc477
                        refine Plan.cmpV (a := (((x_431.length : Nat) : Int) : Int)) (b := (1008 : Int)) (p := x_431.length ≠ 1008) (v := false) rfl rfl rfl rfl icmp_neN (decide_eq_false hc477) ?_
                        refine Plan.pickFb rfl rfl rfl ?_
                        refine Plan.move_bool rfl rfl ?_
                        refine Plan.move_slice rfl rfl ?_
                        refine Plan.move_slice rfl rfl ?_
                        refine Plan.move_int rfl rfl ?_
                        refine Plan.move_int rfl rfl ?_
                        refine Plan.move_int rfl rfl ?_
                        obtain ⟨hc480, hR⟩ := hR
                        refine Plan.addI (a := at_394) (b := (x_189.getD i_395 (0 : Int))) rfl rfl rfl (by omega) ?_
                        obtain ⟨hc481, hR⟩ := hR
                        obtain ⟨hc482, hR⟩ := hR
                        obtain ⟨hc483, hR⟩ := hR
                        have hm484 := ho450.hc
                        refine Plan.slSl (lo := at_394.toNat) (hi := (at_394 + (x_189.getD i_395 (0 : Int))).toNat) FPackBack.sl22 rfl rfl ⟨_, congrArg (Value.int .i64) (Int.toNat_of_nonneg hc481).symm⟩ ⟨_, congrArg (Value.int .i64) (Int.toNat_of_nonneg hc482).symm⟩ (by omega) ?_
                        obtain ⟨x_486, hr485, hR⟩ := hR
                        refine Plan.call (vs := [.slice ay0_443 x_441.length cy0_446, .slice (if cy0_181 = at_394.toNat then (ay0_178 : Option Addr) else (ay0_178 : Option Addr).map (·.add (at_394.toNat * 3))) ((at_394 + (x_189.getD i_395 (0 : Int))).toNat - at_394.toNat) (cy0_181 - at_394.toNat)]) rfl FPackBack.call27 rfl (lethelaw11_Same_ok (by exact (LV.grow D25_lifts (fun r hr => List.mem_append_right [_, _, _, _, _] ((fun _ h => h) r hr)) (LO.lvf EL.at_flat hd448_0 0 rfl))) (by exact (LV.grow D25_lifts (fun r hr => List.mem_append_right [_, _, _, _, _] ((fun _ h => h) r hr)) (LV.sgl (LO.lvf EL.at_flat ho450 3 rfl) (lo := at_394.toNat) (hi := (at_394 + (x_189.getD i_395 (0 : Int))).toNat) hc483))) hr485 h449) ?_
                        rintro _ w487 ⟨rfl, h487⟩
                        refine ⟨_, rfl, .inl ⟨PIn.keep PIn.nil h487, ?_⟩⟩
                        refine Plan.not rfl rfl ?_
                        refine Plan.pickFb rfl rfl rfl ?_
                        refine Plan.nil ?_
                        refine hK470 _ _ ?_; clear hK470
                        by_cases hc488 : x_486 = true
                        ·
                          replace hR := ifT hR hc488
                          refine W.condF (congrArg Value.bool (congrArg Bool.not hc488)) ?_
                          refine W.skip ?_
                          refine hK452 _ _ ?_; clear hK452
                          refine W.regionT [(0, true), (1, true), (2, true), (3, true)] (by kernel_rfl) ?_
                          refine Plan.move_int rfl rfl ?_
                          refine Plan.move_int rfl rfl ?_
                          obtain ⟨hc489, hR⟩ := hR
                          refine Plan.addI (a := at_394) (b := (x_189.getD i_395 (0 : Int))) rfl rfl rfl (by omega) ?_
                          refine Plan.assign_int rfl rfl ?_
                          refine Plan.nil ?_
                          refine blockR_norm ?_
                          refine hK405 _ _ ?_; clear hK405
                          refine W.regionT [(0, true), (1, true), (2, true)] (by kernel_rfl) ?_
                          refine Plan.move_int rfl rfl ?_
                          obtain ⟨hc490, hR⟩ := hR
                          refine Plan.addN (a := i_395) (b := 1) rfl rfl rfl (by omega) ?_
                          refine Plan.assign_int rfl rfl ?_
                          refine Plan.nil ?_
                          have h491 := St.pickT (C := [_, _, _, _, _]) h487 [2, 3, 4] (by decide)
                          simp only [pick, List.filterMap_cons, List.filterMap_nil, List.getElem?_cons_zero, List.getElem?_cons_succ, List.cons_append, List.nil_append] at h491
                          obtain ⟨CF492, hx492, hy492⟩ := hFj397
                          exact iterR_norm ⟨_, hR, CF492, L, hx492, L, rfl, (EnvHas.cons rfl (EnvHas.cons rfl (EnvHas.cons rfl (EnvHas.cons rfl (EnvHas.cons rfl EnvHas.nil))))), h491⟩
                        ·
                          replace hR := ifF hR hc488
                          refine W.condT (congrArg Value.bool (congrArg Bool.not (Bool.eq_false_iff.2 hc488))) ?_
                          refine W.seq_k fun K493 hK493 => ?_
                          refine W.regionT [(0, true)] (by kernel_rfl) ?_
                          refine Plan.assign_bool rfl rfl ?_
                          refine Plan.nil ?_
                          refine hK493 _ _ ?_; clear hK493
                          refine W.ret (thenR_ret (blockR_ret (thenR_ret (iterR_ret (blockR_ret (thenR_ret (thenR_ret (finR_ret ?_))))))))
                          have h494 := St.pickT (C := [_, _, _, _, _]) h487 [] (by decide)
                          simp only [pick, List.filterMap_cons, List.filterMap_nil, List.getElem?_cons_zero, List.getElem?_cons_succ, List.cons_append, List.nil_append] at h494
                          replace hR := hR.2
                          subst r
                          refine RetOk.mk (.tmp_bool rfl .nil) ?_
                          obtain ⟨CF, hx1, hx2⟩ := hFr
                          subst hx1
                          have hdr := St.dropC (N := []) h494
                          exact ⟨rfl, hdr⟩
            ·
              replace hR := ifF hR hc404
              refine W.condF (congrArg Value.bool (decide_eq_false hc404)) ?_
              refine W.exit (thenR_exit (iterR_exit (blockR_here ?_)))
              have h495 := St.pickT (C := [_, _, _]) h398 [1] (by decide)
              simp only [pick, List.filterMap_cons, List.filterMap_nil, List.getElem?_cons_zero, List.getElem?_cons_succ, List.cons_append, List.nil_append] at h495
              obtain ⟨CF496, hx496, hy496⟩ := hFj397
              exact ⟨at_394, (hx397 _ hR).symm, CF496, L, hx496, L, rfl, (EnvHas.cons rfl (EnvHas.cons rfl EnvHas.nil)), h495⟩
          ·
            rintro ev497 wl497 ⟨y_at_396, hy497, CG497, LG497, hlg497, L, hLe497, he497, h497⟩
            obtain ⟨ev497, rfl⟩ := he497.open
            replace hR := hR0397 y_at_396 hy497
            obtain ⟨at_396, e_at_396⟩ : ∃ z, z = y_at_396 := ⟨_, rfl⟩; subst e_at_396
            have hL497 := hLe497.trans hlg497
            replace hFr : Fr2 _ _ L L := hFr.step hL497 hL497
            replace hFj112 : Fr2 _ _ L L := hFj112.step hL497 hL497
            replace hFj397 : Fr2 _ _ L L := hFj397.step hL497 hL497
            have ho499 : LO (D25.at L) [] ay0_178 py0_179 (x_177).length cy0_181 Fy0_182 x_177 := by rw [hL497]; exact LO.grow D25_lifts (fun r hr => List.mem_append_right _ hr) hd183_0
            refine hK220 _ _ ?_; clear hK220
            refine W.seq_k fun K500 hK500 => ?_
            refine W.regionT [(0, true), (1, true), (2, true), (3, true), (4, true)] (by kernel_rfl) ?_
            refine Plan.move_int rfl rfl ?_
            refine Plan.move_slice rfl rfl ?_
            refine Plan.len FPackBack.isl22 rfl rfl ?_
            refine Plan.cmpP (a := (at_396 : Int)) (b := (((x_177.length : Nat) : Int) : Int)) (p := at_396 = ((x_177.length : Nat) : Int)) rfl rfl rfl rfl icmp_eq ?_
            refine Plan.assign_bool rfl rfl ?_
            refine Plan.nil ?_
            refine hK500 _ _ ?_; clear hK500
            refine W.ret (finR_ret ?_)
            have h501 := St.pickT (C := [_]) h497 [] (by decide)
            simp only [pick, List.filterMap_cons, List.filterMap_nil, List.getElem?_cons_zero, List.getElem?_cons_succ, List.cons_append, List.nil_append] at h501
            subst r
            refine RetOk.mk (.tmp_bool rfl .nil) ?_
            obtain ⟨CF, hx1, hx2⟩ := hFr
            subst hx1
            have hdr := St.dropC (N := []) h501
            exact ⟨rfl, hdr⟩
      ·
        replace hR := ifF hR hc215
        obtain rfl : x_213 = false := Bool.eq_false_iff.2 hc215
        refine Plan.notF rfl rfl ?_
        refine Plan.pickFb rfl rfl rfl ?_
        refine Plan.move_bool rfl rfl ?_
        refine Plan.passed rfl ?_
        refine Plan.passed rfl ?_
        refine Plan.passed rfl ?_
        refine Plan.passed rfl ?_
        refine Plan.passed rfl ?_
        refine Plan.passed rfl ?_
        refine Plan.passed rfl ?_
        refine Plan.pickTb rfl rfl rfl ?_
        refine Plan.nil ?_
        refine hK208 _ _ ?_; clear hK208
        refine W.condT rfl ?_
        refine W.seq_k fun K502 hK502 => ?_
        refine W.regionT [(0, true)] (by kernel_rfl) ?_
        refine Plan.assign_bool rfl rfl ?_
        refine Plan.nil ?_
        refine hK502 _ _ ?_; clear hK502
        refine W.ret (thenR_ret (finR_ret ?_))
        have h503 := St.pickT (C := [_, _, _]) h214 [] (by decide)
        simp only [pick, List.filterMap_cons, List.filterMap_nil, List.getElem?_cons_zero, List.getElem?_cons_succ, List.cons_append, List.nil_append] at h503
        subst r
        refine RetOk.mk (.tmp_bool rfl .nil) ?_
        obtain ⟨CF, hx1, hx2⟩ := hFr
        subst hx1
        have hdr := St.dropC (N := []) h503
        exact ⟨rfl, hdr⟩

end Go.Proofs.Ytbkgblhmlenocaa
