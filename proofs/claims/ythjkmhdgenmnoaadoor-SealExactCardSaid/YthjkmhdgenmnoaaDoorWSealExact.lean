/-
 WALKS of the package's functions, printed by this session's own program (auto.py).
-/
import Derived.Test.YthjkmhdgenmnoaaDoorProg
import Derived.Test.YthjkmhdgenmnoaaDoorEc
import Derived.Test.YthjkmhdgenmnoaaDoorRSealExact
import Derived.Test.YthjkmhdgenmnoaaDoorEls
import Derived.Test.YthjkmhdgenmnoaaDoorWLaw05
namespace Go.Proofs.YthjkmhdgenmnoaaDoor
set_option linter.unusedSimpArgs false
set_option linter.unusedVariables false
set_option linter.unusedSectionVars false
set_option maxRecDepth 8000
set_option maxHeartbeats 1000000
open Go Go.LW
theorem FSealExact.row42 : rowB Tryd.prog 42 = true := by kernel_rfl
theorem FSealExact.z42 : zeroIs Tryd.prog 42 [(1, fun _ => .slice none 0 0), (1, fun _ => .slice none 0 0)] := zeroIs_agg (by kernel_rfl)
theorem FSealExact.isl38 : ∃ el, Tryd.prog.underlying 38 = some (.slice el) := ⟨45, by kernel_rfl⟩
theorem FSealExact.sl38 : slB Tryd.prog 38 36 = true := by kernel_rfl
theorem FSealExact.agg45 : aggT Tryd.prog 45 36 = true := by kernel_rfl
theorem FSealExact.zv5 : (Tryd.prog.info? 5).bind (·.zero) = some (VU .u8 0#8) := by kernel_rfl
theorem FSealExact.slu24 : Tryd.prog.underlying 24 = some (.slice 5) := by kernel_rfl
theorem FSealExact.sz5 : szT Tryd.prog 5 1 = true := by kernel_rfl
theorem FSealExact.call16 : callB Tryd.prog 16 = true := by kernel_rfl
theorem FSealExact.call17 : callB Tryd.prog 17 = true := by kernel_rfl
theorem FSealExact.pl45 : placesB Tryd.prog 45 [(0, 1), (1, 32), (33, 1), (34, 1), (35, 1)] = true := by kernel_rfl
theorem FSealExact.z45 : zeroIs Tryd.prog 45 [(1, fun _ => .int .i64 0), (32, fun _ => VU .u8 0#8), (1, fun _ => .slice none 0 0), (1, fun _ => .slice none 0 0), (1, fun _ => .int .i64 0)] := zeroIs_agg (by kernel_rfl)
theorem lethelaw05_SealExact_ok {B : Nat} {w0 w : World} {L : List Rg} {iG0 : Nat} (hG0 : L[iG0]? = some ⟨some 0, 0, 8, fun q => VU .u32 (H256 q), false⟩) {iG1 : Nat} (hG1 : L[iG1]? = some ⟨some 1, 0, 64, fun q => VU .u32 (K256 q), false⟩) {iG2 : Nat} (hG2 : L[iG2]? = some ⟨some 2, 0, 8, fun q => VU .u64 (H64 q), false⟩) {iG3 : Nat} (hG3 : L[iG3]? = some ⟨some 3, 0, 64, fun q => VU .u64 (K64 q), false⟩) {script1 : List (Int × (Nat → BitVec 8) × (List Byte) × (List Byte) × Int)} {ascript1 : Option Addr} {nscript1 cscript1 iscript1 : Nat} (hscript1 : LV (D45.at L) L iscript1 ascript1 nscript1 cscript1 script1) {r : Bool} (hR : lethelaw05_SealExact script1 r) (HST : St B w0 (L) w) :
  Calls Tryd.prog 6 #[.slice ascript1 nscript1 cscript1] w fun e w' => e = .returned (.bool r) ∧ St B w0 (L) w' := by
 refine W.enter 46 Tryd.func6 rfl rfl rfl ?_
 unfold lethelaw05_SealExact at hR
 have hFr : Fr2 L L L L := Fr2.refl _ _
 have escript1 := hscript1.hl; subst escript1
 refine W.seq_k fun _ k2 => W.regionT [(0, true)] (by kernel_rfl) ?_
 refine Plan.assign_bool rfl rfl <| Plan.nil (k2 _ _ ?_); clear k2
 refine W.seq_k fun _ k3 => W.regionT [(0, true), (1, false), (2, true)] (by kernel_rfl) ?_
 refine Plan.buildZ FSealExact.row42 FSealExact.z42 rfl ?_
 refine Plan.boxA HST rfl rfl PIn.nil fun b4 w4 hb4 h4 => ?_
 simp only [rngs, Nat.zero_add, Nat.reduceAdd, zca, zna] at h4
 refine Plan.assign_ptr rfl rfl <| Plan.nil (k3 _ _ ?_); clear k3
 refine W.seq_k fun _ k5 => W.seq_k fun _ k6 => ?_
 refine W.regionT [(0, true)] (by kernel_rfl) ?_
 refine Plan.assign_int rfl rfl <| Plan.nil (k6 _ _ ?_); clear k6
 have hFj108 : Fr2 L L L L := Fr2.refl _ _
 have h109 : St B w0 (⟨none, 0, 0 * 1, fun _ => undef, true⟩ :: _) _ := h4.nilE (fun _ => undef)
 have h110 : St B w0 (⟨none, 0, 0 * 1, fun _ => undef, true⟩ :: _) _ := h109.nilE (fun _ => undef)
 obtain ⟨x108, hI108, hR0108⟩ := hR
 refine W.cutN (fun e w => ∃ y_m106 : List (List Byte), ∃ y_m107 : List (List Byte), x108 = some (y_m106, y_m107) ∧ ∃ CG LG : List Rg, LG = CG ++ L ∧ ∃ L : List Rg, L = LG ∧ ∃ n_m106 : Nat, ∃ am106 : Option Addr, ∃ pm106 : Option Nat, ∃ cm106 : Nat, ∃ Fm106 : Nat → Value, ∃ n_m107 : Nat, ∃ am107 : Option Addr, ∃ pm107 : Option Nat, ∃ cm107 : Nat, ∃ Fm107 : Nat → Value, EnvHas e [(3, .pointer (some ⟨b4, 0, none⟩))] ∧ St B w0 (⟨pm106, 0, cm106 * 1, Fm106, true⟩ :: ⟨pm107, 0, cm107 * 1, Fm107, true⟩ :: ⟨some b4, 0, 1, fun _ => .slice am106 n_m106 cm106, true⟩ :: ⟨some b4, 1, 1, fun _ => .slice am107 n_m107 cm107, true⟩ :: L) w ∧ LO (D24.at L) [] am106 pm106 n_m106 cm106 Fm106 y_m106 ∧ LO (D24.at L) [] am107 pm107 n_m107 cm107 Fm107 y_m107) ?_ ?_
 ·
  refine W.block ?_
  have h111 := St.pickT (C := [_, _, _, _]) h110 [1, 0, 2, 3] (by decide)
  simp only [pick, zfc, zfn, zgz, zgs, zca, zna] at h111
  refine W.iter hI108 (fun (s108 : (Nat × (List (List Byte)) × (List (List Byte)))) e w => ∃ CG LG : List Rg, LG = CG ++ L ∧ ∃ L : List Rg, L = LG ∧ ∃ n_m102 : Nat, ∃ am102 : Option Addr, ∃ pm102 : Option Nat, ∃ cm102 : Nat, ∃ Fm102 : Nat → Value, ∃ n_m104 : Nat, ∃ am104 : Option Addr, ∃ pm104 : Option Nat, ∃ cm104 : Nat, ∃ Fm104 : Nat → Value, EnvHas e [(0, .slice ascript1 script1.length cscript1), (3, .pointer (some ⟨b4, 0, none⟩)), (4, VN s108.1)] ∧ St B w0 (⟨pm102, 0, cm102 * 1, Fm102, true⟩ :: ⟨pm104, 0, cm104 * 1, Fm104, true⟩ :: ⟨some b4, 0, 1, fun _ => .slice am102 n_m102 cm102, true⟩ :: ⟨some b4, 1, 1, fun _ => .slice am104 n_m104 cm104, true⟩ :: L) w ∧ LO (D24.at L) [] am102 pm102 n_m102 cm102 Fm102 s108.2.1 ∧ LO (D24.at L) [] am104 pm104 n_m104 cm104 Fm104 s108.2.2) ⟨[], L, rfl, L, rfl, 0, none, none, 0, (fun _ => undef), 0, none, none, 0, (fun _ => undef), (zer (zer (zer zen))), h111, LO.nil, LO.nil⟩ ?_
  rintro ⟨i_101, m102, m104⟩ o108 hR hx108 ev112 wl112 ⟨CG112, LG112, hlg112, L, hLe112, n_m102, am102, pm102, cm102, Fm102, n_m104, am104, pm104, cm104, Fm104, he112, h112, hm102, hm104⟩
  try dsimp only at he112 h112 hm102 hm104
  obtain rfl : List.length (α := (List Byte)) m102 = n_m102 := hm102.hl
  obtain rfl : List.length (α := (List Byte)) m104 = n_m104 := hm104.hl
  obtain ⟨ev112, rfl⟩ := he112.open
  unfold lethelaw05_SealExact_l0 at hR
  have hL112 := hLe112.trans hlg112
  replace hFr : Fr2 _ _ L L := hFr.step hL112 hL112
  replace hFj108 : Fr2 _ _ L L := hFj108.step hL112 hL112
  obtain ⟨ix114, hv114⟩ : ∃ i, LV (D45.at L) L i ascript1 script1.length cscript1 script1 := ⟨_, by rw [hL112]; exact (LV.grow D45_lifts (fun r hr => List.mem_append_right _ hr) hscript1).app _⟩
  refine W.seq_k fun _ k115 => W.seq_k fun _ k119 => ?_
  refine W.regionT [(0, true), (1, true), (2, true), (3, true), (4, true), (5, true), (6, true), (7, true)] (by kernel_rfl) ?_
  refine Plan.move_int rfl rfl <| Plan.move_slice rfl rfl <| Plan.len FSealExact.isl38 rfl rfl ?_
  by_cases hc120 : i_101 < script1.length
  ·
   replace hR := ifT hR hc120
   refine Plan.cmpV (a := (((i_101 : Nat) : Int) : Int)) (b := (((script1.length : Nat) : Int) : Int)) (p := i_101 < script1.length) (v := true) rfl rfl rfl rfl icmp_ltN (decide_eq_true hc120) <| Plan.move_bool rfl rfl <| Plan.move_int rfl rfl <| Plan.cmpP (a := (((i_101 : Nat) : Int) : Int)) (b := (20 : Int)) (p := i_101 < 20) rfl rfl rfl rfl icmp_ltN <| Plan.pickTb rfl rfl rfl <| Plan.nil (k119 _ _ ?_); clear k119
   by_cases hc121 : i_101 < 20
   ·
    replace hR := ifT hR hc121
    refine W.condT (congrArg Value.bool (decide_eq_true hc121)) ?_
    refine W.skip ?_
    refine k115 _ _ ?_; clear k115
    refine W.seq_k fun _ k122 => ?_
    refine W.block ?_
    refine W.seq_k fun _ k123 => W.regionT [(0, true), (1, true), (2, true), (3, true), (4, true), (5, false), (6, true)] (by kernel_rfl) ?_
    refine Plan.move_ptr rfl rfl <| Plan.move_slice rfl rfl <| Plan.move_int rfl rfl ?_
    obtain ⟨hc124, hR⟩ := hR
    refine Plan.idxLVS (D := (D45.at L)) (j := i_101) h112 (hv114.app [_, _, _, _]) FSealExact.sl38 rfl rfl rfl hc124 ?_
    refine Plan.loadLV (D := (D45.at L)) (X := script1) (j := i_101) (sz := 36) h112 ((0 : Int), (fun _ => 0#8), ([] : List Byte), ([] : List Byte), (0 : Int)) (hv114.app [_, _, _, _]) rfl rfl hc124 rfl FSealExact.agg45 fun b125 r125 hs125 hr125 => ?_
    obtain ⟨⟨i125_2, hv125_2⟩, ⟨i125_3, hv125_3⟩⟩ := hs125
    have h126 := St.pickT (C := [_, _, _, _]) h112 [2, 0, 3, 1] (by decide)
    simp only [pick, zfc, zfn, zgz, zgs, zca, zna] at h126
    obtain ⟨x_128, x_129, x_130, hr127, hR⟩ := hR
    refine Plan.call (vs := [.pointer (some ⟨b4, 0, none⟩), AG [(1, fun _ => .int .i64 ((script1.getD i_101 ((0 : Int), (fun _ => 0#8), ([] : List Byte), ([] : List Byte), (0 : Int))).1)), (32, fun q => VU .u8 (((script1.getD i_101 ((0 : Int), (fun _ => 0#8), ([] : List Byte), ([] : List Byte), (0 : Int))).2.1) q)), (1, fun _ => .slice ((b125.1).1) (((script1.getD i_101 ((0 : Int), (fun _ => 0#8), ([] : List Byte), ([] : List Byte), (0 : Int))).2.2.1).length) ((b125.1).2)), (1, fun _ => .slice ((b125.2).1) (((script1.getD i_101 ((0 : Int), (fun _ => 0#8), ([] : List Byte), ([] : List Byte), (0 : Int))).2.2.2.1).length) ((b125.2).2)), (1, fun _ => .int .i64 ((script1.getD i_101 ((0 : Int), (fun _ => 0#8), ([] : List Byte), ([] : List Byte), (0 : Int))).2.2.2.2))]]) rfl FSealExact.call16 rfl (lethelaw05_Book_plays_ok (iG0 := (hFr.get hG0).choose + 0) (hFr.get hG0).choose_spec (iG1 := (hFr.get hG1).choose + 0) (hFr.get hG1).choose_spec (iG2 := (hFr.get hG2).choose + 0) (hFr.get hG2).choose_spec (iG3 := (hFr.get hG3).choose + 0) (hFr.get hG3).choose_spec (LP := L) (by exact fun r hr => List.mem_append_right [] ((fun _ h => h) r hr)) (by exact LO.grow D24_lifts (fun r hr => hr) hm102) (by exact LO.grow D24_lifts (fun r hr => hr) hm104) (by exact ⟨_, hv125_2⟩) (by exact ⟨_, hv125_3⟩) hr127 h126) ?_
    rintro _ w141 ⟨C141, aqbLists2_131, pqbLists2_132, nqbLists2_133, cqbLists2_134, FqbLists2_135, aqbWant3_136, pqbWant3_137, nqbWant3_138, cqbWant3_139, FqbWant3_140, rfl, h141, hf141_0, hf141_1⟩
    try dsimp only at hf141_0 hf141_1
    obtain rfl := hf141_0.hl
    obtain rfl := hf141_1.hl
    replace h141 := St.pool (N := [_, _, _, _]) (R := []) h141
    obtain ⟨L, hL142⟩ : ∃ X, X = C141 ++ L := ⟨_, rfl⟩
    have h142 := St.re (N := [_, _, _, _]) hL142 h141
    simp only [zca, zna] at h142
    replace hFr : Fr2 _ _ L L := hFr.step hL142 hL142
    replace hFj108 : Fr2 _ _ L L := hFj108.step hL142 hL142
    obtain ⟨ix143, hv143⟩ : ∃ i, LV (D45.at L) L i ascript1 script1.length cscript1 script1 := ⟨_, by rw [hL142]; exact (LV.grow D45_lifts (fun r hr => List.mem_append_right _ hr) hv114).app _⟩
    obtain ⟨ix144, hv144⟩ : ∃ i, Bx L i ((b125.1).1) (((script1.getD i_101 ((0 : Int), (fun _ => 0#8), ([] : List Byte), ([] : List Byte), (0 : Int))).2.2.1).length) ((b125.1).2) ((script1.getD i_101 ((0 : Int), (fun _ => 0#8), ([] : List Byte), ([] : List Byte), (0 : Int))).2.2.1) := ⟨_, by rw [hL142]; exact hv125_2.app _⟩
    obtain ⟨ix145, hv145⟩ : ∃ i, Bx L i ((b125.2).1) (((script1.getD i_101 ((0 : Int), (fun _ => 0#8), ([] : List Byte), ([] : List Byte), (0 : Int))).2.2.2.1).length) ((b125.2).2) ((script1.getD i_101 ((0 : Int), (fun _ => 0#8), ([] : List Byte), ([] : List Byte), (0 : Int))).2.2.2.1) := ⟨_, by rw [hL142]; exact hv125_3.app _⟩
    obtain ⟨jx146, hj146⟩ : ∃ j : Nat, L[j]? = some r125 := ⟨_, by rw [hL142]; exact flget (i := ix114) hr125 _⟩
    have ho147 : LO (D24.at L) [] aqbLists2_131 pqbLists2_132 (x_129).length cqbLists2_134 FqbLists2_135 x_129 := LO.grow D24_lifts (fun r hr => (by rw [hL142]; exact hr)) hf141_0
    have ho148 : LO (D24.at L) [] aqbWant3_136 pqbWant3_137 (x_130).length cqbWant3_139 FqbWant3_140 x_130 := LO.grow D24_lifts (fun r hr => (by rw [hL142]; exact hr)) hf141_1
    refine ⟨_, rfl, .inr ⟨rfl, ?_⟩⟩
    refine Plan.assign_bool rfl rfl <| Plan.nil (k123 _ _ ?_); clear k123
    refine W.seq_k fun _ k149 => W.regionT [(0, true), (1, true), (2, true), (3, true), (4, false), (5, true), (6, true)] (by kernel_rfl) ?_
    by_cases hc150 : x_128 = true
    ·
     replace hR := ifT hR hc150
     refine Plan.move_bool (b := true) rfl (congrArg Value.bool hc150) <| Plan.notT rfl rfl <| Plan.move_bool rfl rfl <| Plan.move_ptr rfl rfl ?_
     have h151 := St.pickT (C := [_, _, _, _]) h142 [0, 2, 1, 3] (by decide)
     simp only [pick, zfc, zfn, zgz, zgs, zca, zna] at h151
     obtain ⟨x_153, hr152, hR⟩ := hR
     refine Plan.call (vs := [.pointer (some ⟨b4, 0, none⟩)]) rfl FSealExact.call17 rfl (lethelaw05_Book_Holds_ok (by exact (LV.grow D24_lifts (fun r hr => List.mem_append_right [_, _] ((fun _ h => h) r hr)) (LO.lvf EL.at_flat ho147 0 rfl))) (by exact (LV.grow D24_lifts (fun r hr => List.mem_append_right [_, _] ((fun _ h => h) r hr)) (LO.lvf EL.at_flat ho148 1 rfl))) hr152 h151) ?_
     rintro _ w154 ⟨rfl, h154⟩
     refine ⟨_, rfl, .inl ⟨PIn.keep PIn.nil h154, ?_⟩⟩
     refine Plan.not rfl rfl <| Plan.pickFb rfl rfl rfl <| Plan.nil (k149 _ _ ?_); clear k149
     by_cases hc155 : x_153 = true
     ·
      replace hR := ifT hR hc155
      refine W.condF (congrArg Value.bool (congrArg Bool.not hc155)) ?_
      refine W.skip ?_
      refine blockR_norm ?_
      refine k122 _ _ ?_; clear k122
      refine W.regionT [(0, true), (1, true), (2, true)] (by kernel_rfl) ?_
      refine Plan.move_int rfl rfl <| Plan.addN (a := i_101) (b := 1) rfl rfl rfl (by omega) <| Plan.assign_int rfl rfl <| Plan.nil ?_
      have h156 := St.pickT (C := [_, _, _, _]) h154 [2, 3, 0, 1] (by decide)
      simp only [pick, zfc, zfn, zgz, zgs, zca, zna] at h156
      obtain ⟨CF157, hx157, hy157⟩ := hFj108
      exact iterR_norm ⟨_, hR, CF157, L, hx157, L, rfl, x_129.length, aqbLists2_131, pqbLists2_132, cqbLists2_134, FqbLists2_135, x_130.length, aqbWant3_136, pqbWant3_137, cqbWant3_139, FqbWant3_140, (zer (zer (zer zen))), h156, ho147, ho148⟩
     ·
      replace hR := ifF hR hc155
      refine W.condT (congrArg Value.bool (congrArg Bool.not (Bool.eq_false_iff.2 hc155))) ?_
      refine W.seq_k fun _ k158 => W.regionT [(0, true)] (by kernel_rfl) ?_
      refine Plan.assign_bool rfl rfl <| Plan.nil (k158 _ _ ?_); clear k158
      refine W.ret (blockR_ret (thenR_ret (iterR_ret (blockR_ret (thenR_ret (thenR_ret (finR_ret ?_)))))))
      have h159 := St.pickT (C := [_, _, _, _]) h154 [] (by decide)
      simp only [pick, zfc, zfn, zgz, zgs, zca, zna] at h159
      replace hR := hR.2
      subst r
      refine RetOk.mk (.tmp_bool rfl .nil) ?_
      obtain ⟨CF, hx1, hx2⟩ := hFr
      subst hx1
      have hdr := St.dropC (N := []) h159
      exact ⟨rfl, hdr⟩
    ·
     replace hR := ifF hR hc150
     refine Plan.move_bool (b := false) rfl (congrArg Value.bool (Bool.eq_false_iff.2 hc150)) <| Plan.notF rfl rfl <| Plan.move_bool rfl rfl <| Plan.passed rfl <| Plan.passed rfl <| Plan.passed rfl <| Plan.pickTb rfl rfl rfl <| Plan.nil (k149 _ _ ?_); clear k149
     refine W.condT rfl ?_
     refine W.seq_k fun _ k160 => W.regionT [(0, true)] (by kernel_rfl) ?_
     refine Plan.assign_bool rfl rfl <| Plan.nil (k160 _ _ ?_); clear k160
     refine W.ret (blockR_ret (thenR_ret (iterR_ret (blockR_ret (thenR_ret (thenR_ret (finR_ret ?_)))))))
     have h161 := St.pickT (C := [_, _, _, _]) h142 [] (by decide)
     simp only [pick, zfc, zfn, zgz, zgs, zca, zna] at h161
     replace hR := hR.2
     subst r
     refine RetOk.mk (.tmp_bool rfl .nil) ?_
     obtain ⟨CF, hx1, hx2⟩ := hFr
     subst hx1
     have hdr := St.dropC (N := []) h161
     exact ⟨rfl, hdr⟩
   ·
    replace hR := ifF hR hc121
    refine W.condF (congrArg Value.bool (decide_eq_false hc121)) ?_
    refine W.exit (thenR_exit (iterR_exit (blockR_here ?_)))
    obtain ⟨CF162, hx162, hy162⟩ := hFj108
    exact ⟨m102, m104, (hx108 _ hR).symm, CF162, L, hx162, L, rfl, m102.length, am102, pm102, cm102, Fm102, m104.length, am104, pm104, cm104, Fm104, (zer zen), h112, hm102, hm104⟩
  ·
   replace hR := ifF hR hc120
   refine Plan.cmpV (a := (((i_101 : Nat) : Int) : Int)) (b := (((script1.length : Nat) : Int) : Int)) (p := i_101 < script1.length) (v := false) rfl rfl rfl rfl icmp_ltN (decide_eq_false hc120) <| Plan.move_bool rfl rfl <| Plan.passed rfl <| Plan.passed rfl <| Plan.pickFb rfl rfl rfl <| Plan.nil (k119 _ _ ?_); clear k119
   refine W.condF rfl ?_
   refine W.exit (thenR_exit (iterR_exit (blockR_here ?_)))
   obtain ⟨CF163, hx163, hy163⟩ := hFj108
   exact ⟨m102, m104, (hx108 _ hR).symm, CF163, L, hx163, L, rfl, m102.length, am102, pm102, cm102, Fm102, m104.length, am104, pm104, cm104, Fm104, (zer zen), h112, hm102, hm104⟩
 ·
  rintro ev164 wl164 ⟨y_m106, y_m107, hy164, CG164, LG164, hlg164, L, hLe164, n_m106, am106, pm106, cm106, Fm106, n_m107, am107, pm107, cm107, Fm107, he164, h164, hm106, hm107⟩
  obtain ⟨ev164, rfl⟩ := he164.open
  replace hR := hR0108 y_m106 y_m107 hy164
  obtain ⟨m106, e_m106⟩ : ∃ z, z = y_m106 := ⟨_, rfl⟩; subst e_m106
  obtain ⟨m107, e_m107⟩ : ∃ z, z = y_m107 := ⟨_, rfl⟩; subst e_m107
  obtain rfl : List.length (α := (List Byte)) m106 = n_m106 := hm106.hl
  obtain rfl : List.length (α := (List Byte)) m107 = n_m107 := hm107.hl
  have hL164 := hLe164.trans hlg164
  replace hFr : Fr2 _ _ L L := hFr.step hL164 hL164
  replace hFj108 : Fr2 _ _ L L := hFj108.step hL164 hL164
  refine k5 _ _ ?_; clear k5
  refine W.seq_k fun _ k166 => W.regionT [(0, true), (1, false), (2, false), (3, true), (4, false), (5, true), (6, true), (7, false), (8, true), (9, false), (10, true), (11, true), (12, true), (13, false), (14, true), (15, true)] (by kernel_rfl) ?_
  refine Plan.move_ptr rfl rfl ?_
  refine Plan.buildSlice h164 (ps := [(3, fun q => VU .u8 (lit ([1#8, 2#8, 3#8] : List Byte) q))]) FSealExact.slu24 FSealExact.sz5 FSealExact.zv5 (by decide) (by decide) rfl rfl (by kernel_rfl) (EffO.keep PIn.nil) fun b167 w167 hb167 h167 => ?_
  simp only [rngs, List.cons_append, List.nil_append] at h167
  have ho167 : Ow (some ⟨b167, 0, none⟩) (some b167) ([1#8, 2#8, 3#8] : List Byte).length 3 (lit ([1#8, 2#8, 3#8] : List Byte)) ([1#8, 2#8, 3#8] : List Byte) := ⟨.inr ⟨b167, rfl, rfl⟩, Nat.le_refl _, rfl, fun q _ => rfl⟩
  refine Plan.buildSlice h167 (ps := [(1, fun q => VU .u8 (lit ([4#8] : List Byte) q))]) FSealExact.slu24 FSealExact.sz5 FSealExact.zv5 (by decide) (by decide) rfl rfl (by kernel_rfl) (EffO.keep PIn.nil) fun b168 w168 hb168 h168 => ?_
  simp only [rngs, List.cons_append, List.nil_append] at h168
  have ho168 : Ow (some ⟨b168, 0, none⟩) (some b168) ([4#8] : List Byte).length 1 (lit ([4#8] : List Byte)) ([4#8] : List Byte) := ⟨.inr ⟨b168, rfl, rfl⟩, Nat.le_refl _, rfl, fun q _ => rfl⟩
  refine Plan.buildP (ps := [(1, fun _ => VN 4), (32, fun q => VU .u8 ((fun _ => 0#8) q)), (1, fun _ => .slice (some ⟨b168, 0, none⟩) (([4#8] : List Byte).length) 1), (1, fun _ => .slice (some ⟨b167, 0, none⟩) (([1#8, 2#8, 3#8] : List Byte).length) 3), (1, fun _ => VN 0)]) FSealExact.pl45 (by decide) FSealExact.z45 rfl rfl (.one [] [(32, fun q => VU .u8 ((fun _ => 0#8) q)), (1, fun _ => .slice none 0 0), (1, fun _ => .slice none 0 0), (1, fun _ => VN 0)] (fun _ => VN 0) rfl rfl (.one [(1, fun _ => VN 4), (32, fun q => VU .u8 ((fun _ => 0#8) q)), (1, fun _ => .slice none 0 0)] [(1, fun _ => VN 0)] (fun _ => .slice none 0 0) rfl rfl (.one [(1, fun _ => VN 4), (32, fun q => VU .u8 ((fun _ => 0#8) q))] [(1, fun _ => .slice (some ⟨b167, 0, none⟩) (([1#8, 2#8, 3#8] : List Byte).length) 3), (1, fun _ => VN 0)] (fun _ => .slice none 0 0) rfl rfl .nil))) ?_
  have h169 := St.pickT (C := [_, _, _, _, _, _]) h168 [1, 2, 3, 4, 5, 0] (by decide)
  simp only [pick, zfc, zfn, zgz, zgs, zca, zna] at h169
  obtain ⟨L, hL170⟩ : ∃ X, X = [⟨some b168, 0, 1, fun q => VU .u8 ((lit ([4#8] : List Byte)) q), true⟩] ++ L := ⟨_, rfl⟩
  have h170 := St.re (N := [_, _, _, _, _]) hL170 h169
  simp only [zca, zna] at h170
  replace hFr : Fr2 _ _ L L := hFr.step hL170 hL170
  replace hFj108 : Fr2 _ _ L L := hFj108.step hL170 hL170
  have ho171 : LO (D24.at L) [] am106 pm106 (m106).length cm106 Fm106 m106 := by rw [hL170]; exact LO.grow D24_lifts (fun r hr => List.mem_append_right _ hr) hm106
  have ho172 : LO (D24.at L) [] am107 pm107 (m107).length cm107 Fm107 m107 := by rw [hL170]; exact LO.grow D24_lifts (fun r hr => List.mem_append_right _ hr) hm107
  obtain ⟨ix173, hv173⟩ : ∃ i, Bx L i (some ⟨b168, 0, none⟩) (([4#8] : List Byte).length) 1 ([4#8] : List Byte) := ⟨_, by rw [hL170]; exact (ho168.bx 0 rfl)⟩
  have h174 := St.pickT (C := [_, _, _, _, _]) h170 [1, 2, 3, 4, 0] (by decide)
  simp only [pick, zfc, zfn, zgz, zgs, zca, zna] at h174
  obtain ⟨L, hL175⟩ : ∃ X, X = [⟨some b167, 0, 3, fun q => VU .u8 ((lit ([1#8, 2#8, 3#8] : List Byte)) q), true⟩] ++ L := ⟨_, rfl⟩
  have h175 := St.re (N := [_, _, _, _]) hL175 h174
  simp only [zca, zna] at h175
  replace hFr : Fr2 _ _ L L := hFr.step hL175 hL175
  replace hFj108 : Fr2 _ _ L L := hFj108.step hL175 hL175
  obtain ⟨ix176, hv176⟩ : ∃ i, Bx L i (some ⟨b168, 0, none⟩) (([4#8] : List Byte).length) 1 ([4#8] : List Byte) := ⟨_, by rw [hL175]; exact hv173.app _⟩
  have ho177 : LO (D24.at L) [] am106 pm106 (m106).length cm106 Fm106 m106 := by rw [hL175]; exact LO.grow D24_lifts (fun r hr => List.mem_append_right _ hr) ho171
  have ho178 : LO (D24.at L) [] am107 pm107 (m107).length cm107 Fm107 m107 := by rw [hL175]; exact LO.grow D24_lifts (fun r hr => List.mem_append_right _ hr) ho172
  obtain ⟨ix179, hv179⟩ : ∃ i, Bx L i (some ⟨b167, 0, none⟩) (([1#8, 2#8, 3#8] : List Byte).length) 3 ([1#8, 2#8, 3#8] : List Byte) := ⟨_, by rw [hL175]; exact (ho167.bx 0 rfl)⟩
  have h180 := St.pickT (C := [_, _, _, _]) h175 [2, 0, 3, 1] (by decide)
  simp only [pick, zfc, zfn, zgz, zgs, zca, zna] at h180
  obtain ⟨x_182, x_183, x_184, hr181, hR⟩ := hR
  refine Plan.call (vs := [.pointer (some ⟨b4, 0, none⟩), AG [(1, fun _ => VN 4), (32, fun q => VU .u8 ((fun _ => 0#8) q)), (1, fun _ => .slice (some ⟨b168, 0, none⟩) (([4#8] : List Byte).length) 1), (1, fun _ => .slice (some ⟨b167, 0, none⟩) (([1#8, 2#8, 3#8] : List Byte).length) 3), (1, fun _ => VN 0)]]) rfl FSealExact.call16 rfl (lethelaw05_Book_plays_ok (iG0 := (hFr.get hG0).choose + 0) (hFr.get hG0).choose_spec (iG1 := (hFr.get hG1).choose + 0) (hFr.get hG1).choose_spec (iG2 := (hFr.get hG2).choose + 0) (hFr.get hG2).choose_spec (iG3 := (hFr.get hG3).choose + 0) (hFr.get hG3).choose_spec (LP := L) (by exact fun r hr => List.mem_append_right [] ((fun _ h => h) r hr)) (by exact LO.grow D24_lifts (fun r hr => hr) ho177) (by exact LO.grow D24_lifts (fun r hr => hr) ho178) (by exact ⟨_, hv176⟩) (by exact ⟨_, hv179⟩) hr181 h180) ?_
  rintro _ w195 ⟨C195, aqbLists2_185, pqbLists2_186, nqbLists2_187, cqbLists2_188, FqbLists2_189, aqbWant3_190, pqbWant3_191, nqbWant3_192, cqbWant3_193, FqbWant3_194, rfl, h195, hf195_0, hf195_1⟩
  try dsimp only at hf195_0 hf195_1
  obtain rfl := hf195_0.hl
  obtain rfl := hf195_1.hl
  replace h195 := St.pool (N := [_, _, _, _]) (R := []) h195
  obtain ⟨L, hL196⟩ : ∃ X, X = C195 ++ L := ⟨_, rfl⟩
  have h196 := St.re (N := [_, _, _, _]) hL196 h195
  simp only [zca, zna] at h196
  replace hFr : Fr2 _ _ L L := hFr.step hL196 hL196
  replace hFj108 : Fr2 _ _ L L := hFj108.step hL196 hL196
  obtain ⟨ix197, hv197⟩ : ∃ i, Bx L i (some ⟨b167, 0, none⟩) (([1#8, 2#8, 3#8] : List Byte).length) 3 ([1#8, 2#8, 3#8] : List Byte) := ⟨_, by rw [hL196]; exact hv179.app _⟩
  obtain ⟨ix198, hv198⟩ : ∃ i, Bx L i (some ⟨b168, 0, none⟩) (([4#8] : List Byte).length) 1 ([4#8] : List Byte) := ⟨_, by rw [hL196]; exact hv176.app _⟩
  have ho199 : LO (D24.at L) [] aqbLists2_185 pqbLists2_186 (x_183).length cqbLists2_188 FqbLists2_189 x_183 := LO.grow D24_lifts (fun r hr => (by rw [hL196]; exact hr)) hf195_0
  have ho200 : LO (D24.at L) [] aqbWant3_190 pqbWant3_191 (x_184).length cqbWant3_193 FqbWant3_194 x_184 := LO.grow D24_lifts (fun r hr => (by rw [hL196]; exact hr)) hf195_1
  refine ⟨_, rfl, .inl ⟨PIn.keep PIn.nil h196, ?_⟩⟩
  by_cases hc201 : x_182 = true
  ·
   replace hR := ifT hR hc201
   obtain rfl : x_182 = true := hc201
   refine Plan.move_bool rfl rfl <| Plan.move_ptr rfl rfl ?_
   refine Plan.buildSlice h196 (ps := [(1, fun q => VU .u8 (lit ([1#8] : List Byte) q))]) FSealExact.slu24 FSealExact.sz5 FSealExact.zv5 (by decide) (by decide) rfl rfl (by kernel_rfl) (EffO.keep PIn.nil) fun b202 w202 hb202 h202 => ?_
   simp only [rngs, List.cons_append, List.nil_append] at h202
   have ho202 : Ow (some ⟨b202, 0, none⟩) (some b202) ([1#8] : List Byte).length 1 (lit ([1#8] : List Byte)) ([1#8] : List Byte) := ⟨.inr ⟨b202, rfl, rfl⟩, Nat.le_refl _, rfl, fun q _ => rfl⟩
   refine Plan.buildP (ps := [(1, fun _ => VN 1), (32, fun q => VU .u8 ((fun _ => 0#8) q)), (1, fun _ => .slice none 0 0), (1, fun _ => .slice (some ⟨b202, 0, none⟩) (([1#8] : List Byte).length) 1), (1, fun _ => VN 0)]) FSealExact.pl45 (by decide) FSealExact.z45 rfl rfl (.one [] [(32, fun q => VU .u8 ((fun _ => 0#8) q)), (1, fun _ => .slice none 0 0), (1, fun _ => .slice none 0 0), (1, fun _ => VN 0)] (fun _ => VN 0) rfl rfl (.one [(1, fun _ => VN 1), (32, fun q => VU .u8 ((fun _ => 0#8) q)), (1, fun _ => .slice none 0 0)] [(1, fun _ => VN 0)] (fun _ => .slice none 0 0) rfl rfl .nil)) ?_
   have h203 := St.pickT (C := [_, _, _, _, _]) h202 [1, 2, 3, 4, 0] (by decide)
   simp only [pick, zfc, zfn, zgz, zgs, zca, zna] at h203
   obtain ⟨L, hL204⟩ : ∃ X, X = [⟨some b202, 0, 1, fun q => VU .u8 ((lit ([1#8] : List Byte)) q), true⟩] ++ L := ⟨_, rfl⟩
   have h204 := St.re (N := [_, _, _, _]) hL204 h203
   simp only [zca, zna] at h204
   replace hFr : Fr2 _ _ L L := hFr.step hL204 hL204
   replace hFj108 : Fr2 _ _ L L := hFj108.step hL204 hL204
   obtain ⟨ix205, hv205⟩ : ∃ i, Bx L i (some ⟨b167, 0, none⟩) (([1#8, 2#8, 3#8] : List Byte).length) 3 ([1#8, 2#8, 3#8] : List Byte) := ⟨_, by rw [hL204]; exact hv197.app _⟩
   obtain ⟨ix206, hv206⟩ : ∃ i, Bx L i (some ⟨b168, 0, none⟩) (([4#8] : List Byte).length) 1 ([4#8] : List Byte) := ⟨_, by rw [hL204]; exact hv198.app _⟩
   have ho207 : LO (D24.at L) [] aqbLists2_185 pqbLists2_186 (x_183).length cqbLists2_188 FqbLists2_189 x_183 := by rw [hL204]; exact LO.grow D24_lifts (fun r hr => List.mem_append_right _ hr) ho199
   have ho208 : LO (D24.at L) [] aqbWant3_190 pqbWant3_191 (x_184).length cqbWant3_193 FqbWant3_194 x_184 := by rw [hL204]; exact LO.grow D24_lifts (fun r hr => List.mem_append_right _ hr) ho200
   obtain ⟨ix209, hv209⟩ : ∃ i, Bx L i (some ⟨b202, 0, none⟩) (([1#8] : List Byte).length) 1 ([1#8] : List Byte) := ⟨_, by rw [hL204]; exact (ho202.bx 0 rfl)⟩
   obtain ⟨x_211, x_212, x_213, hr210, hR⟩ := hR
   refine Plan.call (vs := [.pointer (some ⟨b4, 0, none⟩), AG [(1, fun _ => VN 1), (32, fun q => VU .u8 ((fun _ => 0#8) q)), (1, fun _ => .slice none 0 0), (1, fun _ => .slice (some ⟨b202, 0, none⟩) (([1#8] : List Byte).length) 1), (1, fun _ => VN 0)]]) rfl FSealExact.call16 rfl (lethelaw05_Book_plays_ok (iG0 := (hFr.get hG0).choose + 0) (hFr.get hG0).choose_spec (iG1 := (hFr.get hG1).choose + 0) (hFr.get hG1).choose_spec (iG2 := (hFr.get hG2).choose + 0) (hFr.get hG2).choose_spec (iG3 := (hFr.get hG3).choose + 0) (hFr.get hG3).choose_spec (LP := L) (by exact fun r hr => List.mem_append_right [] ((fun _ h => h) r hr)) (by exact LO.grow D24_lifts (fun r hr => hr) ho207) (by exact LO.grow D24_lifts (fun r hr => hr) ho208) (by exact ⟨_, Bx.nil 0⟩) (by exact ⟨_, hv209⟩) hr210 h204) ?_
   rintro _ w224 ⟨C224, aqbLists2_214, pqbLists2_215, nqbLists2_216, cqbLists2_217, FqbLists2_218, aqbWant3_219, pqbWant3_220, nqbWant3_221, cqbWant3_222, FqbWant3_223, rfl, h224, hf224_0, hf224_1⟩
   try dsimp only at hf224_0 hf224_1
   obtain rfl := hf224_0.hl
   obtain rfl := hf224_1.hl
   replace h224 := St.pool (N := [_, _, _, _]) (R := []) h224
   obtain ⟨L, hL225⟩ : ∃ X, X = C224 ++ L := ⟨_, rfl⟩
   have h225 := St.re (N := [_, _, _, _]) hL225 h224
   simp only [zca, zna] at h225
   replace hFr : Fr2 _ _ L L := hFr.step hL225 hL225
   replace hFj108 : Fr2 _ _ L L := hFj108.step hL225 hL225
   obtain ⟨ix226, hv226⟩ : ∃ i, Bx L i (some ⟨b167, 0, none⟩) (([1#8, 2#8, 3#8] : List Byte).length) 3 ([1#8, 2#8, 3#8] : List Byte) := ⟨_, by rw [hL225]; exact hv205.app _⟩
   obtain ⟨ix227, hv227⟩ : ∃ i, Bx L i (some ⟨b168, 0, none⟩) (([4#8] : List Byte).length) 1 ([4#8] : List Byte) := ⟨_, by rw [hL225]; exact hv206.app _⟩
   obtain ⟨ix228, hv228⟩ : ∃ i, Bx L i (some ⟨b202, 0, none⟩) (([1#8] : List Byte).length) 1 ([1#8] : List Byte) := ⟨_, by rw [hL225]; exact hv209.app _⟩
   have ho229 : LO (D24.at L) [] aqbLists2_214 pqbLists2_215 (x_212).length cqbLists2_217 FqbLists2_218 x_212 := LO.grow D24_lifts (fun r hr => (by rw [hL225]; exact hr)) hf224_0
   have ho230 : LO (D24.at L) [] aqbWant3_219 pqbWant3_220 (x_213).length cqbWant3_222 FqbWant3_223 x_213 := LO.grow D24_lifts (fun r hr => (by rw [hL225]; exact hr)) hf224_1
   refine ⟨_, rfl, .inl ⟨PIn.keep PIn.nil h225, ?_⟩⟩
   by_cases hc231 : x_211 = true
   ·
    replace hR := ifT hR hc231
    obtain rfl : x_211 = true := hc231
    refine Plan.pickTb rfl rfl rfl <| Plan.move_bool rfl rfl <| Plan.move_ptr rfl rfl ?_
    have h232 := St.pickT (C := [_, _, _, _]) h225 [0, 2, 1, 3] (by decide)
    simp only [pick, zfc, zfn, zgz, zgs, zca, zna] at h232
    obtain ⟨x_234, hr233, hR⟩ := hR
    refine Plan.call (vs := [.pointer (some ⟨b4, 0, none⟩)]) rfl FSealExact.call17 rfl (lethelaw05_Book_Holds_ok (by exact (LV.grow D24_lifts (fun r hr => List.mem_append_right [_, _] ((fun _ h => h) r hr)) (LO.lvf EL.at_flat ho229 0 rfl))) (by exact (LV.grow D24_lifts (fun r hr => List.mem_append_right [_, _] ((fun _ h => h) r hr)) (LO.lvf EL.at_flat ho230 1 rfl))) hr233 h232) ?_
    rintro _ w235 ⟨rfl, h235⟩
    refine ⟨_, rfl, .inl ⟨PIn.keep PIn.nil h235, ?_⟩⟩
    refine Plan.pickTb rfl rfl rfl <| Plan.assign_bool rfl rfl <| Plan.nil (k166 _ _ ?_); clear k166
    refine W.ret (finR_ret ?_)
    have h236 := St.pickT (C := [_, _, _, _]) h235 [] (by decide)
    simp only [pick, zfc, zfn, zgz, zgs, zca, zna] at h236
    subst r
    refine RetOk.mk (.tmp_bool rfl .nil) ?_
    obtain ⟨CF, hx1, hx2⟩ := hFr
    subst hx1
    have hdr := St.dropC (N := []) h236
    exact ⟨rfl, hdr⟩
   ·
    replace hR := ifF hR hc231
    obtain rfl : x_211 = false := Bool.eq_false_iff.2 hc231
    refine Plan.pickTb rfl rfl rfl <| Plan.move_bool rfl rfl <| Plan.passed rfl <| Plan.passed rfl <| Plan.pickFb rfl rfl rfl <| Plan.assign_bool rfl rfl <| Plan.nil (k166 _ _ ?_); clear k166
    refine W.ret (finR_ret ?_)
    have h237 := St.pickT (C := [_, _, _, _]) h225 [] (by decide)
    simp only [pick, zfc, zfn, zgz, zgs, zca, zna] at h237
    subst r
    refine RetOk.mk (.tmp_bool rfl .nil) ?_
    obtain ⟨CF, hx1, hx2⟩ := hFr
    subst hx1
    have hdr := St.dropC (N := []) h237
    exact ⟨rfl, hdr⟩
  ·
   replace hR := ifF hR hc201
   obtain rfl : x_182 = false := Bool.eq_false_iff.2 hc201
   refine Plan.move_bool rfl rfl <| Plan.passed rfl <| Plan.passed rfl <| Plan.passed rfl <| Plan.passed rfl <| Plan.pickFb rfl rfl rfl <| Plan.move_bool rfl rfl <| Plan.passed rfl ?_
   refine Plan.passed rfl <| Plan.pickFb rfl rfl rfl <| Plan.assign_bool rfl rfl <| Plan.nil (k166 _ _ ?_); clear k166
   refine W.ret (finR_ret ?_)
   have h238 := St.pickT (C := [_, _, _, _]) h196 [] (by decide)
   simp only [pick, zfc, zfn, zgz, zgs, zca, zna] at h238
   subst r
   refine RetOk.mk (.tmp_bool rfl .nil) ?_
   obtain ⟨CF, hx1, hx2⟩ := hFr
   subst hx1
   have hdr := St.dropC (N := []) h238
   exact ⟨rfl, hdr⟩
end Go.Proofs.YthjkmhdgenmnoaaDoor
