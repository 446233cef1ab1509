/-
  WALKS of the package's functions, printed by this session's own program (auto.py).
-/
import Derived.Test.YtjdgbahjpdopbaaDoorProg
import Derived.Test.YtjdgbahjpdopbaaDoorEc
import Derived.Test.YtjdgbahjpdopbaaDoorRKdfExact
import Derived.Test.YtjdgbahjpdopbaaDoorEls
import Derived.Test.YtjdgbahjpdopbaaDoorWLaw03
namespace Go.Proofs.YtjdgbahjpdopbaaDoor
set_option linter.unusedSimpArgs false
set_option linter.unusedVariables false
set_option linter.unusedSectionVars false
open Go Go.LW
theorem FKdfExact.row78 : rowB Tryd.prog 78 = true := by kernel_rfl
theorem FKdfExact.z78 : zeroIs Tryd.prog 78 [(1, fun _ => .slice none 0 0), (1, fun _ => .slice none 0 0), (1, fun _ => .slice none 0 0), (1, fun _ => .slice none 0 0)] := zeroIs_agg (by kernel_rfl)
theorem FKdfExact.isl73 : ∃ el, Tryd.prog.underlying 73 = some (.slice el) := ⟨81, by kernel_rfl⟩
theorem FKdfExact.sl73 : slB Tryd.prog 73 5 = true := by kernel_rfl
theorem FKdfExact.agg81 : aggT Tryd.prog 81 5 = true := by kernel_rfl
theorem FKdfExact.call43 : callB Tryd.prog 43 = true := by kernel_rfl
theorem FKdfExact.call44 : callB Tryd.prog 44 = true := by kernel_rfl
theorem FKdfExact.pl81 : placesB Tryd.prog 81 [(0, 1), (1, 1), (2, 1), (3, 1), (4, 1)] = true := by kernel_rfl
theorem FKdfExact.z81 : zeroIs Tryd.prog 81 [(1, fun _ => .int .i64 0), (1, fun _ => .slice none 0 0), (1, fun _ => .slice none 0 0), (1, fun _ => .slice none 0 0), (1, fun _ => .int .i64 0)] := zeroIs_agg (by kernel_rfl)

set_option maxRecDepth 8000 in
set_option maxHeartbeats 1000000 in
theorem lethelaw03_KdfExact_ok {B : Nat} {w0 w : World} {L : List Rg} {iG0 : Nat} (hG0 : L[iG0]? = some ⟨some 0, 0, 64, fun q => VU .u32 (K256 q), false⟩) {iG1 : Nat} (hG1 : L[iG1]? = some ⟨some 1, 0, 8, fun q => VU .u32 (H256 q), false⟩) {iG2 : Nat} (hG2 : L[iG2]? = some ⟨some 2, 0, 64, fun q => VU .u64 (K64 q), false⟩) {iG3 : Nat} (hG3 : L[iG3]? = some ⟨some 3, 0, 8, fun q => VU .u64 (H64 q), false⟩) {script1 : List (Int × (List Byte) × (List Byte) × (List Byte) × Int)} {ascript1 : Option Addr} {nscript1 cscript1 iscript1 : Nat} (hscript1 : LV (D81.at L) L iscript1 ascript1 nscript1 cscript1 script1) {r : Bool} (hR : lethelaw03_KdfExact script1 r) (HST : St B w0 (L) w) :
    Calls Tryd.prog 12 #[.slice ascript1 nscript1 cscript1] w fun e w' => e = .returned (.bool r) ∧ St B w0 (L) w' := by
  refine W.enter 43 Tryd.func12 rfl rfl rfl ?_
  unfold lethelaw03_KdfExact at hR
  have hFr : Fr2 L L L L := Fr2.refl _ _
  have escript1 := hscript1.hl; subst escript1
  refine W.seq_k fun K2 hK2 => ?_
  refine W.regionT [(0, true)] (by kernel_rfl) ?_
  refine Plan.assign_bool rfl rfl ?_
  refine Plan.nil ?_
  refine hK2 _ _ ?_; clear hK2
  refine W.seq_k fun K3 hK3 => ?_
  refine W.regionT [(0, true), (1, false), (2, true)] (by kernel_rfl) ?_
  refine Plan.buildZ FKdfExact.row78 FKdfExact.z78 rfl ?_
  refine Plan.boxA HST rfl rfl PIn.nil fun b4 w4 hb4 h4 => ?_
  simp only [rngs, Nat.zero_add, Nat.reduceAdd, List.cons_append, List.nil_append] at h4
  refine Plan.assign_ptr rfl rfl ?_
  refine Plan.nil ?_
  refine hK3 _ _ ?_; clear hK3
  refine W.seq_k fun K5 hK5 => ?_
  refine W.seq_k fun K6 hK6 => ?_
  refine W.regionT [(0, true)] (by kernel_rfl) ?_
  refine Plan.assign_int rfl rfl ?_
  refine Plan.nil ?_
  refine hK6 _ _ ?_; clear hK6
  have hFj150 : Fr2 L L L L := Fr2.refl _ _
  have h151 : St B w0 (⟨none, 0, 0 * 1, fun _ => undef, true⟩ :: _) _ := h4.nilE (fun _ => undef)
  have h152 : St B w0 (⟨none, 0, 0 * 1, fun _ => undef, true⟩ :: _) _ := h151.nilE (fun _ => undef)
  have h153 : St B w0 (⟨none, 0, 0 * 1, fun _ => undef, true⟩ :: _) _ := h152.nilE (fun _ => undef)
  have h154 : St B w0 (⟨none, 0, 0 * 1, fun _ => undef, true⟩ :: _) _ := h153.nilE (fun _ => undef)
  obtain ⟨x150, hI150, hR0150⟩ := hR
  refine W.cutN (fun e w => ∃ y_m146 : List (List Byte), ∃ y_m147 : List (List Byte), ∃ y_m148 : List (List (Nat → BitVec 8)), ∃ y_m149 : List (List (Nat → BitVec 8)), x150 = some (y_m146, y_m147, y_m148, y_m149) ∧ ∃ CG LG : List Rg, LG = CG ++ L ∧ ∃ L : List Rg, L = LG ∧ ∃ n_m146 : Nat, ∃ am146 : Option Addr, ∃ pm146 : Option Nat, ∃ cm146 : Nat, ∃ Fm146 : Nat → Value, ∃ n_m147 : Nat, ∃ am147 : Option Addr, ∃ pm147 : Option Nat, ∃ cm147 : Nat, ∃ Fm147 : Nat → Value, ∃ n_m148 : Nat, ∃ am148 : Option Addr, ∃ pm148 : Option Nat, ∃ cm148 : Nat, ∃ Fm148 : Nat → Value, ∃ n_m149 : Nat, ∃ am149 : Option Addr, ∃ pm149 : Option Nat, ∃ cm149 : Nat, ∃ Fm149 : Nat → Value, EnvHas e [(3, .pointer (some ⟨b4, 0, none⟩))] ∧ St B w0 (⟨pm146, 0, cm146 * 1, Fm146, true⟩ :: ⟨pm147, 0, cm147 * 1, Fm147, true⟩ :: ⟨pm148, 0, cm148 * 1, Fm148, true⟩ :: ⟨pm149, 0, cm149 * 1, Fm149, true⟩ :: ⟨some b4, 0, 1, fun _ => .slice am146 n_m146 cm146, true⟩ :: ⟨some b4, 1, 1, fun _ => .slice am147 n_m147 cm147, true⟩ :: ⟨some b4, 2, 1, fun _ => .slice am148 n_m148 cm148, true⟩ :: ⟨some b4, 3, 1, fun _ => .slice am149 n_m149 cm149, true⟩ :: L) w ∧ LO (D22.at L) [] am146 pm146 n_m146 cm146 Fm146 y_m146 ∧ LO (D22.at L) [] am147 pm147 n_m147 cm147 Fm147 y_m147 ∧ LO (D62.at L) [] am148 pm148 n_m148 cm148 Fm148 y_m148 ∧ LO (D62.at L) [] am149 pm149 n_m149 cm149 Fm149 y_m149) ?_ ?_
  ·
    refine W.block ?_
    have h155 := St.pickT (C := [_, _, _, _, _, _, _, _]) h154 [3, 2, 1, 0, 4, 5, 6, 7] (by decide)
    simp only [pick, List.filterMap_cons, List.filterMap_nil, List.getElem?_cons_zero, List.getElem?_cons_succ, List.cons_append, List.nil_append] at h155
    refine W.iter hI150 (fun (s150 : (Nat × (List (List Byte)) × (List (List Byte)) × (List (List (Nat → BitVec 8))) × (List (List (Nat → BitVec 8))))) e w => ∃ CG LG : List Rg, LG = CG ++ L ∧ ∃ L : List Rg, L = LG ∧ ∃ n_m138 : Nat, ∃ am138 : Option Addr, ∃ pm138 : Option Nat, ∃ cm138 : Nat, ∃ Fm138 : Nat → Value, ∃ n_m140 : Nat, ∃ am140 : Option Addr, ∃ pm140 : Option Nat, ∃ cm140 : Nat, ∃ Fm140 : Nat → Value, ∃ n_m142 : Nat, ∃ am142 : Option Addr, ∃ pm142 : Option Nat, ∃ cm142 : Nat, ∃ Fm142 : Nat → Value, ∃ n_m144 : Nat, ∃ am144 : Option Addr, ∃ pm144 : Option Nat, ∃ cm144 : Nat, ∃ Fm144 : Nat → Value, EnvHas e [(0, .slice ascript1 script1.length cscript1), (3, .pointer (some ⟨b4, 0, none⟩)), (4, VN s150.1)] ∧ St B w0 (⟨pm138, 0, cm138 * 1, Fm138, true⟩ :: ⟨pm140, 0, cm140 * 1, Fm140, true⟩ :: ⟨pm142, 0, cm142 * 1, Fm142, true⟩ :: ⟨pm144, 0, cm144 * 1, Fm144, true⟩ :: ⟨some b4, 0, 1, fun _ => .slice am138 n_m138 cm138, true⟩ :: ⟨some b4, 1, 1, fun _ => .slice am140 n_m140 cm140, true⟩ :: ⟨some b4, 2, 1, fun _ => .slice am142 n_m142 cm142, true⟩ :: ⟨some b4, 3, 1, fun _ => .slice am144 n_m144 cm144, true⟩ :: L) w ∧ LO (D22.at L) [] am138 pm138 n_m138 cm138 Fm138 s150.2.1 ∧ LO (D22.at L) [] am140 pm140 n_m140 cm140 Fm140 s150.2.2.1 ∧ LO (D62.at L) [] am142 pm142 n_m142 cm142 Fm142 s150.2.2.2.1 ∧ LO (D62.at L) [] am144 pm144 n_m144 cm144 Fm144 s150.2.2.2.2) ⟨[], L, rfl, L, rfl, 0, none, none, 0, (fun _ => undef), 0, none, none, 0, (fun _ => undef), 0, none, none, 0, (fun _ => undef), 0, none, none, 0, (fun _ => undef), (EnvHas.cons rfl (EnvHas.cons rfl (EnvHas.cons rfl EnvHas.nil))), h155, LO.nil, LO.nil, LO.nil, LO.nil⟩ ?_
    rintro ⟨i_137, m138, m140, m142, m144⟩ o150 hR hx150 ev156 wl156 ⟨CG156, LG156, hlg156, L, hLe156, n_m138, am138, pm138, cm138, Fm138, n_m140, am140, pm140, cm140, Fm140, n_m142, am142, pm142, cm142, Fm142, n_m144, am144, pm144, cm144, Fm144, he156, h156, hm138, hm140, hm142, hm144⟩
    try dsimp only at he156 h156 hm138 hm140 hm142 hm144
    obtain rfl : List.length (α := (List Byte)) m138 = n_m138 := hm138.hl
    obtain rfl : List.length (α := (List Byte)) m140 = n_m140 := hm140.hl
    obtain rfl : List.length (α := (List (Nat → BitVec 8))) m142 = n_m142 := hm142.hl
    obtain rfl : List.length (α := (List (Nat → BitVec 8))) m144 = n_m144 := hm144.hl
    obtain ⟨ev156, rfl⟩ := he156.open
    unfold lethelaw03_KdfExact_l0 at hR
    have hL156 := hLe156.trans hlg156
    replace hFr : Fr2 _ _ L L := hFr.step hL156 hL156
    replace hFj150 : Fr2 _ _ L L := hFj150.step hL156 hL156
    obtain ⟨ix158, hv158⟩ : ∃ i, LV (D81.at L) L i ascript1 script1.length cscript1 script1 := ⟨_, by rw [hL156]; exact (LV.grow D81_lifts (fun r hr => List.mem_append_right _ hr) hscript1).app _⟩
    refine W.seq_k fun K159 hK159 => ?_
    refine W.seq_k fun K163 hK163 => ?_
    refine W.regionT [(0, true), (1, true), (2, true), (3, true), (4, true), (5, true), (6, true), (7, true)] (by kernel_rfl) ?_
    refine Plan.move_int rfl rfl ?_
    refine Plan.move_slice rfl rfl ?_
    refine Plan.len FKdfExact.isl73 rfl rfl ?_
    by_cases hc164 : i_137 < script1.length
    ·
      replace hR := ifT hR hc164
      refine Plan.cmpV (a := (((i_137 : Nat) : Int) : Int)) (b := (((script1.length : Nat) : Int) : Int)) (p := i_137 < script1.length) (v := true) rfl rfl rfl rfl icmp_ltN (decide_eq_true hc164) ?_
      refine Plan.move_bool rfl rfl ?_
      refine Plan.move_int rfl rfl ?_
      refine Plan.cmpP (a := (((i_137 : Nat) : Int) : Int)) (b := (30 : Int)) (p := i_137 < 30) rfl rfl rfl rfl icmp_ltN ?_
      refine Plan.pickTb rfl rfl rfl ?_
      refine Plan.nil ?_
      refine hK163 _ _ ?_; clear hK163
      by_cases hc165 : i_137 < 30
      ·
        replace hR := ifT hR hc165
        refine W.condT (congrArg Value.bool (decide_eq_true hc165)) ?_
        refine W.skip ?_
        refine hK159 _ _ ?_; clear hK159
        refine W.seq_k fun K166 hK166 => ?_
        refine W.block ?_
        refine W.seq_k fun K167 hK167 => ?_
        refine W.regionT [(0, true), (1, true), (2, true), (3, true), (4, true), (5, false), (6, true)] (by kernel_rfl) ?_
        refine Plan.move_ptr rfl rfl ?_
        refine Plan.move_slice rfl rfl ?_
        refine Plan.move_int rfl rfl ?_
        obtain ⟨hc168, hR⟩ := hR
        refine Plan.idxLVS (D := (D81.at L)) (j := i_137) h156 (hv158.app [_, _, _, _, _, _, _, _]) FKdfExact.sl73 rfl rfl rfl hc168 ?_
        refine Plan.loadLV (D := (D81.at L)) (X := script1) (j := i_137) (sz := 5) h156 ((0 : Int), ([] : List Byte), ([] : List Byte), ([] : List Byte), (0 : Int)) (hv158.app [_, _, _, _, _, _, _, _]) rfl rfl hc168 rfl FKdfExact.agg81 fun b169 r169 hs169 hr169 => ?_
        obtain ⟨⟨i169_1, hv169_1⟩, ⟨i169_2, hv169_2⟩, ⟨i169_3, hv169_3⟩⟩ := hs169
        have h170 := St.pickT (C := [_, _, _, _, _, _, _, _]) h156 [4, 0, 5, 1, 6, 2, 7, 3] (by decide)
        simp only [pick, List.filterMap_cons, List.filterMap_nil, List.getElem?_cons_zero, List.getElem?_cons_succ, List.cons_append, List.nil_append] at h170
        obtain ⟨x_172, x_173, x_174, x_175, x_176, hr171, hR⟩ := hR
        refine Plan.call (vs := [.pointer (some ⟨b4, 0, none⟩), AG [(1, fun _ => .int .i64 ((script1.getD i_137 ((0 : Int), ([] : List Byte), ([] : List Byte), ([] : List Byte), (0 : Int))).1)), (1, fun _ => .slice ((b169.1).1) (((script1.getD i_137 ((0 : Int), ([] : List Byte), ([] : List Byte), ([] : List Byte), (0 : Int))).2.1).length) ((b169.1).2)), (1, fun _ => .slice ((b169.2.1).1) (((script1.getD i_137 ((0 : Int), ([] : List Byte), ([] : List Byte), ([] : List Byte), (0 : Int))).2.2.1).length) ((b169.2.1).2)), (1, fun _ => .slice ((b169.2.2).1) (((script1.getD i_137 ((0 : Int), ([] : List Byte), ([] : List Byte), ([] : List Byte), (0 : Int))).2.2.2.1).length) ((b169.2.2).2)), (1, fun _ => .int .i64 ((script1.getD i_137 ((0 : Int), ([] : List Byte), ([] : List Byte), ([] : List Byte), (0 : Int))).2.2.2.2))]]) rfl FKdfExact.call43 rfl (lethelaw03_Book_plays_ok (iG0 := (hFr.get hG0).choose + 0) (hFr.get hG0).choose_spec (iG1 := (hFr.get hG1).choose + 0) (hFr.get hG1).choose_spec (iG2 := (hFr.get hG2).choose + 0) (hFr.get hG2).choose_spec (iG3 := (hFr.get hG3).choose + 0) (hFr.get hG3).choose_spec (LP := L) (by exact fun r hr => List.mem_append_right [] ((fun _ h => h) r hr)) (by exact LO.grow D22_lifts (fun r hr => hr) hm138) (by exact LO.grow D22_lifts (fun r hr => hr) hm140) (by exact LO.grow D62_lifts (fun r hr => hr) hm142) (by exact LO.grow D62_lifts (fun r hr => hr) hm144) (by exact ⟨_, hv169_1⟩) (by exact ⟨_, hv169_2⟩) (by exact ⟨_, hv169_3⟩) hr171 h170) ?_
        rintro _ w197 ⟨C197, aqbLists2_177, pqbLists2_178, nqbLists2_179, cqbLists2_180, FqbLists2_181, aqbWant3_182, pqbWant3_183, nqbWant3_184, cqbWant3_185, FqbWant3_186, aqbKeys4_187, pqbKeys4_188, nqbKeys4_189, cqbKeys4_190, FqbKeys4_191, aqbWantK5_192, pqbWantK5_193, nqbWantK5_194, cqbWantK5_195, FqbWantK5_196, rfl, h197, hf197_0, hf197_1, hf197_2, hf197_3⟩
        try dsimp only at hf197_0 hf197_1 hf197_2 hf197_3
        obtain rfl := hf197_0.hl
        obtain rfl := hf197_1.hl
        obtain rfl := hf197_2.hl
        obtain rfl := hf197_3.hl
        replace h197 := St.pool (N := [_, _, _, _, _, _, _, _]) (R := []) h197
        obtain ⟨L, hL198⟩ : ∃ X, X = C197 ++ L := ⟨_, rfl⟩
        have h198 := St.re (N := [_, _, _, _, _, _, _, _]) hL198 h197
        simp only [List.cons_append, List.nil_append] at h198
        replace hFr : Fr2 _ _ L L := hFr.step hL198 hL198
        replace hFj150 : Fr2 _ _ L L := hFj150.step hL198 hL198
        obtain ⟨ix199, hv199⟩ : ∃ i, LV (D81.at L) L i ascript1 script1.length cscript1 script1 := ⟨_, by rw [hL198]; exact (LV.grow D81_lifts (fun r hr => List.mem_append_right _ hr) hv158).app _⟩
        obtain ⟨ix200, hv200⟩ : ∃ i, Bx L i ((b169.1).1) (((script1.getD i_137 ((0 : Int), ([] : List Byte), ([] : List Byte), ([] : List Byte), (0 : Int))).2.1).length) ((b169.1).2) ((script1.getD i_137 ((0 : Int), ([] : List Byte), ([] : List Byte), ([] : List Byte), (0 : Int))).2.1) := ⟨_, by rw [hL198]; exact hv169_1.app _⟩
        obtain ⟨ix201, hv201⟩ : ∃ i, Bx L i ((b169.2.1).1) (((script1.getD i_137 ((0 : Int), ([] : List Byte), ([] : List Byte), ([] : List Byte), (0 : Int))).2.2.1).length) ((b169.2.1).2) ((script1.getD i_137 ((0 : Int), ([] : List Byte), ([] : List Byte), ([] : List Byte), (0 : Int))).2.2.1) := ⟨_, by rw [hL198]; exact hv169_2.app _⟩
        obtain ⟨ix202, hv202⟩ : ∃ i, Bx L i ((b169.2.2).1) (((script1.getD i_137 ((0 : Int), ([] : List Byte), ([] : List Byte), ([] : List Byte), (0 : Int))).2.2.2.1).length) ((b169.2.2).2) ((script1.getD i_137 ((0 : Int), ([] : List Byte), ([] : List Byte), ([] : List Byte), (0 : Int))).2.2.2.1) := ⟨_, by rw [hL198]; exact hv169_3.app _⟩
        obtain ⟨jx203, hj203⟩ : ∃ j : Nat, L[j]? = some r169 := ⟨_, by rw [hL198]; exact flget (i := ix158) hr169 _⟩
        have ho204 : LO (D22.at L) [] aqbLists2_177 pqbLists2_178 (x_173).length cqbLists2_180 FqbLists2_181 x_173 := LO.grow D22_lifts (fun r hr => (by rw [hL198]; exact hr)) hf197_0
        have ho205 : LO (D22.at L) [] aqbWant3_182 pqbWant3_183 (x_174).length cqbWant3_185 FqbWant3_186 x_174 := LO.grow D22_lifts (fun r hr => (by rw [hL198]; exact hr)) hf197_1
        have ho206 : LO (D62.at L) [] aqbKeys4_187 pqbKeys4_188 (x_175).length cqbKeys4_190 FqbKeys4_191 x_175 := LO.grow D62_lifts (fun r hr => (by rw [hL198]; exact hr)) hf197_2
        have ho207 : LO (D62.at L) [] aqbWantK5_192 pqbWantK5_193 (x_176).length cqbWantK5_195 FqbWantK5_196 x_176 := LO.grow D62_lifts (fun r hr => (by rw [hL198]; exact hr)) hf197_3
        refine ⟨_, rfl, .inr ⟨rfl, ?_⟩⟩
        refine Plan.assign_bool rfl rfl ?_
        refine Plan.nil ?_
        refine hK167 _ _ ?_; clear hK167
        refine W.seq_k fun K208 hK208 => ?_
        refine W.regionT [(0, true), (1, true), (2, true), (3, true), (4, false), (5, true), (6, true)] (by kernel_rfl) ?_
        by_cases hc209 : x_172 = true
        ·
          replace hR := ifT hR hc209
          refine Plan.move_bool (b := true) rfl (congrArg Value.bool hc209) ?_
          refine Plan.notT rfl rfl ?_
          refine Plan.move_bool rfl rfl ?_
          refine Plan.move_ptr rfl rfl ?_
          have h210 := St.pickT (C := [_, _, _, _, _, _, _, _]) h198 [0, 2, 4, 6, 1, 3, 5, 7] (by decide)
          simp only [pick, List.filterMap_cons, List.filterMap_nil, List.getElem?_cons_zero, List.getElem?_cons_succ, List.cons_append, List.nil_append] at h210
          obtain ⟨x_212, hr211, hR⟩ := hR
          refine Plan.call (vs := [.pointer (some ⟨b4, 0, none⟩)]) rfl FKdfExact.call44 rfl (lethelaw03_Book_Holds_ok (by exact (LV.grow D22_lifts (fun r hr => List.mem_append_right [_, _, _, _] ((fun _ h => h) r hr)) (LO.lvf EL.at_flat ho204 0 rfl))) (by exact (LV.grow D22_lifts (fun r hr => List.mem_append_right [_, _, _, _] ((fun _ h => h) r hr)) (LO.lvf EL.at_flat ho205 1 rfl))) (by exact (LV.grow D62_lifts (fun r hr => List.mem_append_right [_, _, _, _] ((fun _ h => h) r hr)) (LO.lvf EL.at_flat ho206 2 rfl))) (by exact (LV.grow D62_lifts (fun r hr => List.mem_append_right [_, _, _, _] ((fun _ h => h) r hr)) (LO.lvf EL.at_flat ho207 3 rfl))) hr211 h210) ?_
          rintro _ w213 ⟨rfl, h213⟩
          refine ⟨_, rfl, .inl ⟨PIn.keep PIn.nil h213, ?_⟩⟩
          refine Plan.not rfl rfl ?_
          refine Plan.pickFb rfl rfl rfl ?_
          refine Plan.nil ?_
          refine hK208 _ _ ?_; clear hK208
          by_cases hc214 : x_212 = true
          ·
            replace hR := ifT hR hc214
            refine W.condF (congrArg Value.bool (congrArg Bool.not hc214)) ?_
            refine W.skip ?_
            refine blockR_norm ?_
            refine hK166 _ _ ?_; clear hK166
            refine W.regionT [(0, true), (1, true), (2, true)] (by kernel_rfl) ?_
            refine Plan.move_int rfl rfl ?_
            refine Plan.addN (a := i_137) (b := 1) rfl rfl rfl (by omega) ?_
            refine Plan.assign_int rfl rfl ?_
            refine Plan.nil ?_
            have h215 := St.pickT (C := [_, _, _, _, _, _, _, _]) h213 [4, 5, 6, 7, 0, 1, 2, 3] (by decide)
            simp only [pick, List.filterMap_cons, List.filterMap_nil, List.getElem?_cons_zero, List.getElem?_cons_succ, List.cons_append, List.nil_append] at h215
            obtain ⟨CF216, hx216, hy216⟩ := hFj150
            exact iterR_norm ⟨_, hR, CF216, L, hx216, L, rfl, x_173.length, aqbLists2_177, pqbLists2_178, cqbLists2_180, FqbLists2_181, x_174.length, aqbWant3_182, pqbWant3_183, cqbWant3_185, FqbWant3_186, x_175.length, aqbKeys4_187, pqbKeys4_188, cqbKeys4_190, FqbKeys4_191, x_176.length, aqbWantK5_192, pqbWantK5_193, cqbWantK5_195, FqbWantK5_196, (EnvHas.cons rfl (EnvHas.cons rfl (EnvHas.cons rfl EnvHas.nil))), h215, ho204, ho205, ho206, ho207⟩
          ·
            replace hR := ifF hR hc214
            refine W.condT (congrArg Value.bool (congrArg Bool.not (Bool.eq_false_iff.2 hc214))) ?_
            refine W.seq_k fun K217 hK217 => ?_
            refine W.regionT [(0, true)] (by kernel_rfl) ?_
            refine Plan.assign_bool rfl rfl ?_
            refine Plan.nil ?_
            refine hK217 _ _ ?_; clear hK217
            refine W.ret (blockR_ret (thenR_ret (iterR_ret (blockR_ret (thenR_ret (thenR_ret (finR_ret ?_)))))))
            have h218 := St.pickT (C := [_, _, _, _, _, _, _, _]) h213 [] (by decide)
            simp only [pick, List.filterMap_cons, List.filterMap_nil, List.getElem?_cons_zero, List.getElem?_cons_succ, List.cons_append, List.nil_append] at h218
            replace hR := hR.2
            subst r
            refine RetOk.mk (.tmp_bool rfl .nil) ?_
            obtain ⟨CF, hx1, hx2⟩ := hFr
            subst hx1
            have hdr := St.dropC (N := []) h218
            exact ⟨rfl, hdr⟩
        ·
          replace hR := ifF hR hc209
          refine Plan.move_bool (b := false) rfl (congrArg Value.bool (Bool.eq_false_iff.2 hc209)) ?_
          refine Plan.notF rfl rfl ?_
          refine Plan.move_bool rfl rfl ?_
          refine Plan.passed rfl ?_
          refine Plan.passed rfl ?_
          refine Plan.passed rfl ?_
          refine Plan.pickTb rfl rfl rfl ?_
          refine Plan.nil ?_
          refine hK208 _ _ ?_; clear hK208
          refine W.condT rfl ?_
          refine W.seq_k fun K219 hK219 => ?_
          refine W.regionT [(0, true)] (by kernel_rfl) ?_
          refine Plan.assign_bool rfl rfl ?_
          refine Plan.nil ?_
          refine hK219 _ _ ?_; clear hK219
          refine W.ret (blockR_ret (thenR_ret (iterR_ret (blockR_ret (thenR_ret (thenR_ret (finR_ret ?_)))))))
          have h220 := St.pickT (C := [_, _, _, _, _, _, _, _]) h198 [] (by decide)
          simp only [pick, List.filterMap_cons, List.filterMap_nil, List.getElem?_cons_zero, List.getElem?_cons_succ, List.cons_append, List.nil_append] at h220
          replace hR := hR.2
          subst r
          refine RetOk.mk (.tmp_bool rfl .nil) ?_
          obtain ⟨CF, hx1, hx2⟩ := hFr
          subst hx1
          have hdr := St.dropC (N := []) h220
          exact ⟨rfl, hdr⟩
      ·
        replace hR := ifF hR hc165
        refine W.condF (congrArg Value.bool (decide_eq_false hc165)) ?_
        refine W.exit (thenR_exit (iterR_exit (blockR_here ?_)))
        obtain ⟨CF221, hx221, hy221⟩ := hFj150
        exact ⟨m138, m140, m142, m144, (hx150 _ hR).symm, CF221, L, hx221, L, rfl, m138.length, am138, pm138, cm138, Fm138, m140.length, am140, pm140, cm140, Fm140, m142.length, am142, pm142, cm142, Fm142, m144.length, am144, pm144, cm144, Fm144, (EnvHas.cons rfl EnvHas.nil), h156, hm138, hm140, hm142, hm144⟩
    ·
      replace hR := ifF hR hc164
      refine Plan.cmpV (a := (((i_137 : Nat) : Int) : Int)) (b := (((script1.length : Nat) : Int) : Int)) (p := i_137 < script1.length) (v := false) rfl rfl rfl rfl icmp_ltN (decide_eq_false hc164) ?_
      refine Plan.move_bool rfl rfl ?_
      refine Plan.passed rfl ?_
      refine Plan.passed rfl ?_
      refine Plan.pickFb rfl rfl rfl ?_
      refine Plan.nil ?_
      refine hK163 _ _ ?_; clear hK163
      refine W.condF rfl ?_
      refine W.exit (thenR_exit (iterR_exit (blockR_here ?_)))
      obtain ⟨CF222, hx222, hy222⟩ := hFj150
      exact ⟨m138, m140, m142, m144, (hx150 _ hR).symm, CF222, L, hx222, L, rfl, m138.length, am138, pm138, cm138, Fm138, m140.length, am140, pm140, cm140, Fm140, m142.length, am142, pm142, cm142, Fm142, m144.length, am144, pm144, cm144, Fm144, (EnvHas.cons rfl EnvHas.nil), h156, hm138, hm140, hm142, hm144⟩
  ·
    rintro ev223 wl223 ⟨y_m146, y_m147, y_m148, y_m149, hy223, CG223, LG223, hlg223, L, hLe223, n_m146, am146, pm146, cm146, Fm146, n_m147, am147, pm147, cm147, Fm147, n_m148, am148, pm148, cm148, Fm148, n_m149, am149, pm149, cm149, Fm149, he223, h223, hm146, hm147, hm148, hm149⟩
    obtain ⟨ev223, rfl⟩ := he223.open
    replace hR := hR0150 y_m146 y_m147 y_m148 y_m149 hy223
    obtain ⟨m146, e_m146⟩ : ∃ z, z = y_m146 := ⟨_, rfl⟩; subst e_m146
    obtain ⟨m147, e_m147⟩ : ∃ z, z = y_m147 := ⟨_, rfl⟩; subst e_m147
    obtain ⟨m148, e_m148⟩ : ∃ z, z = y_m148 := ⟨_, rfl⟩; subst e_m148
    obtain ⟨m149, e_m149⟩ : ∃ z, z = y_m149 := ⟨_, rfl⟩; subst e_m149
    obtain rfl : List.length (α := (List Byte)) m146 = n_m146 := hm146.hl
    obtain rfl : List.length (α := (List Byte)) m147 = n_m147 := hm147.hl
    obtain rfl : List.length (α := (List (Nat → BitVec 8))) m148 = n_m148 := hm148.hl
    obtain rfl : List.length (α := (List (Nat → BitVec 8))) m149 = n_m149 := hm149.hl
    have hL223 := hLe223.trans hlg223
    replace hFr : Fr2 _ _ L L := hFr.step hL223 hL223
    replace hFj150 : Fr2 _ _ L L := hFj150.step hL223 hL223
    refine hK5 _ _ ?_; clear hK5
    refine W.seq_k fun K225 hK225 => ?_
    refine W.regionT [(0, true), (1, true), (2, false), (3, true), (4, true), (5, true), (6, false), (7, true), (8, true), (9, true), (10, false), (11, true), (12, true)] (by kernel_rfl) ?_
    refine Plan.move_ptr rfl rfl ?_
    refine Plan.buildP (ps := [(1, fun _ => VN 1), (1, fun _ => .slice none 0 0), (1, fun _ => .slice none 0 0), (1, fun _ => .slice none 0 0), (1, fun _ => VN 0)]) FKdfExact.pl81 (by decide) FKdfExact.z81 rfl rfl (.one [] [(1, fun _ => .slice none 0 0), (1, fun _ => .slice none 0 0), (1, fun _ => .slice none 0 0), (1, fun _ => VN 0)] (fun _ => VN 0) rfl rfl .nil) ?_
    have h226 := St.pickT (C := [_, _, _, _, _, _, _, _]) h223 [4, 0, 5, 1, 6, 2, 7, 3] (by decide)
    simp only [pick, List.filterMap_cons, List.filterMap_nil, List.getElem?_cons_zero, List.getElem?_cons_succ, List.cons_append, List.nil_append] at h226
    obtain ⟨x_228, x_229, x_230, x_231, x_232, hr227, hR⟩ := hR
    refine Plan.call (vs := [.pointer (some ⟨b4, 0, none⟩), AG [(1, fun _ => VN 1), (1, fun _ => .slice none 0 0), (1, fun _ => .slice none 0 0), (1, fun _ => .slice none 0 0), (1, fun _ => VN 0)]]) rfl FKdfExact.call43 rfl (lethelaw03_Book_plays_ok (iG0 := (hFr.get hG0).choose + 0) (hFr.get hG0).choose_spec (iG1 := (hFr.get hG1).choose + 0) (hFr.get hG1).choose_spec (iG2 := (hFr.get hG2).choose + 0) (hFr.get hG2).choose_spec (iG3 := (hFr.get hG3).choose + 0) (hFr.get hG3).choose_spec (LP := L) (by exact fun r hr => List.mem_append_right [] ((fun _ h => h) r hr)) (by exact LO.grow D22_lifts (fun r hr => hr) hm146) (by exact LO.grow D22_lifts (fun r hr => hr) hm147) (by exact LO.grow D62_lifts (fun r hr => hr) hm148) (by exact LO.grow D62_lifts (fun r hr => hr) hm149) (by exact ⟨_, Bx.nil 0⟩) (by exact ⟨_, Bx.nil 0⟩) (by exact ⟨_, Bx.nil 0⟩) hr227 h226) ?_
    rintro _ w253 ⟨C253, aqbLists2_233, pqbLists2_234, nqbLists2_235, cqbLists2_236, FqbLists2_237, aqbWant3_238, pqbWant3_239, nqbWant3_240, cqbWant3_241, FqbWant3_242, aqbKeys4_243, pqbKeys4_244, nqbKeys4_245, cqbKeys4_246, FqbKeys4_247, aqbWantK5_248, pqbWantK5_249, nqbWantK5_250, cqbWantK5_251, FqbWantK5_252, rfl, h253, hf253_0, hf253_1, hf253_2, hf253_3⟩
    try dsimp only at hf253_0 hf253_1 hf253_2 hf253_3
    obtain rfl := hf253_0.hl
    obtain rfl := hf253_1.hl
    obtain rfl := hf253_2.hl
    obtain rfl := hf253_3.hl
    replace h253 := St.pool (N := [_, _, _, _, _, _, _, _]) (R := []) h253
    obtain ⟨L, hL254⟩ : ∃ X, X = C253 ++ L := ⟨_, rfl⟩
    have h254 := St.re (N := [_, _, _, _, _, _, _, _]) hL254 h253
    simp only [List.cons_append, List.nil_append] at h254
    replace hFr : Fr2 _ _ L L := hFr.step hL254 hL254
    replace hFj150 : Fr2 _ _ L L := hFj150.step hL254 hL254
    have ho255 : LO (D22.at L) [] aqbLists2_233 pqbLists2_234 (x_229).length cqbLists2_236 FqbLists2_237 x_229 := LO.grow D22_lifts (fun r hr => (by rw [hL254]; exact hr)) hf253_0
    have ho256 : LO (D22.at L) [] aqbWant3_238 pqbWant3_239 (x_230).length cqbWant3_241 FqbWant3_242 x_230 := LO.grow D22_lifts (fun r hr => (by rw [hL254]; exact hr)) hf253_1
    have ho257 : LO (D62.at L) [] aqbKeys4_243 pqbKeys4_244 (x_231).length cqbKeys4_246 FqbKeys4_247 x_231 := LO.grow D62_lifts (fun r hr => (by rw [hL254]; exact hr)) hf253_2
    have ho258 : LO (D62.at L) [] aqbWantK5_248 pqbWantK5_249 (x_232).length cqbWantK5_251 FqbWantK5_252 x_232 := LO.grow D62_lifts (fun r hr => (by rw [hL254]; exact hr)) hf253_3
    refine ⟨_, rfl, .inl ⟨PIn.keep PIn.nil h254, ?_⟩⟩
    by_cases hc259 : x_228 = true
    ·
      replace hR := ifT hR hc259
      obtain rfl : x_228 = true := hc259
      refine Plan.move_bool rfl rfl ?_
      refine Plan.move_ptr rfl rfl ?_
      refine Plan.buildP (ps := [(1, fun _ => VN 3), (1, fun _ => .slice none 0 0), (1, fun _ => .slice none 0 0), (1, fun _ => .slice none 0 0), (1, fun _ => VN 33)]) FKdfExact.pl81 (by decide) FKdfExact.z81 rfl rfl (.one [] [(1, fun _ => .slice none 0 0), (1, fun _ => .slice none 0 0), (1, fun _ => .slice none 0 0), (1, fun _ => VN 0)] (fun _ => VN 0) rfl rfl (.one [(1, fun _ => VN 3), (1, fun _ => .slice none 0 0), (1, fun _ => .slice none 0 0), (1, fun _ => .slice none 0 0)] [] (fun _ => VN 0) rfl rfl .nil)) ?_
      obtain ⟨x_261, x_262, x_263, x_264, x_265, hr260, hR⟩ := hR
      refine Plan.call (vs := [.pointer (some ⟨b4, 0, none⟩), AG [(1, fun _ => VN 3), (1, fun _ => .slice none 0 0), (1, fun _ => .slice none 0 0), (1, fun _ => .slice none 0 0), (1, fun _ => VN 33)]]) rfl FKdfExact.call43 rfl (lethelaw03_Book_plays_ok (iG0 := (hFr.get hG0).choose + 0) (hFr.get hG0).choose_spec (iG1 := (hFr.get hG1).choose + 0) (hFr.get hG1).choose_spec (iG2 := (hFr.get hG2).choose + 0) (hFr.get hG2).choose_spec (iG3 := (hFr.get hG3).choose + 0) (hFr.get hG3).choose_spec (LP := L) (by exact fun r hr => List.mem_append_right [] ((fun _ h => h) r hr)) (by exact LO.grow D22_lifts (fun r hr => hr) ho255) (by exact LO.grow D22_lifts (fun r hr => hr) ho256) (by exact LO.grow D62_lifts (fun r hr => hr) ho257) (by exact LO.grow D62_lifts (fun r hr => hr) ho258) (by exact ⟨_, Bx.nil 0⟩) (by exact ⟨_, Bx.nil 0⟩) (by exact ⟨_, Bx.nil 0⟩) hr260 h254) ?_
      rintro _ w286 ⟨C286, aqbLists2_266, pqbLists2_267, nqbLists2_268, cqbLists2_269, FqbLists2_270, aqbWant3_271, pqbWant3_272, nqbWant3_273, cqbWant3_274, FqbWant3_275, aqbKeys4_276, pqbKeys4_277, nqbKeys4_278, cqbKeys4_279, FqbKeys4_280, aqbWantK5_281, pqbWantK5_282, nqbWantK5_283, cqbWantK5_284, FqbWantK5_285, rfl, h286, hf286_0, hf286_1, hf286_2, hf286_3⟩
      try dsimp only at hf286_0 hf286_1 hf286_2 hf286_3
      obtain rfl := hf286_0.hl
      obtain rfl := hf286_1.hl
      obtain rfl := hf286_2.hl
      obtain rfl := hf286_3.hl
      replace h286 := St.pool (N := [_, _, _, _, _, _, _, _]) (R := []) h286
      obtain ⟨L, hL287⟩ : ∃ X, X = C286 ++ L := ⟨_, rfl⟩
      have h287 := St.re (N := [_, _, _, _, _, _, _, _]) hL287 h286
      simp only [List.cons_append, List.nil_append] at h287
      replace hFr : Fr2 _ _ L L := hFr.step hL287 hL287
      replace hFj150 : Fr2 _ _ L L := hFj150.step hL287 hL287
      have ho288 : LO (D22.at L) [] aqbLists2_266 pqbLists2_267 (x_262).length cqbLists2_269 FqbLists2_270 x_262 := LO.grow D22_lifts (fun r hr => (by rw [hL287]; exact hr)) hf286_0
      have ho289 : LO (D22.at L) [] aqbWant3_271 pqbWant3_272 (x_263).length cqbWant3_274 FqbWant3_275 x_263 := LO.grow D22_lifts (fun r hr => (by rw [hL287]; exact hr)) hf286_1
      have ho290 : LO (D62.at L) [] aqbKeys4_276 pqbKeys4_277 (x_264).length cqbKeys4_279 FqbKeys4_280 x_264 := LO.grow D62_lifts (fun r hr => (by rw [hL287]; exact hr)) hf286_2
      have ho291 : LO (D62.at L) [] aqbWantK5_281 pqbWantK5_282 (x_265).length cqbWantK5_284 FqbWantK5_285 x_265 := LO.grow D62_lifts (fun r hr => (by rw [hL287]; exact hr)) hf286_3
      refine ⟨_, rfl, .inl ⟨PIn.keep PIn.nil h287, ?_⟩⟩
      by_cases hc292 : x_261 = true
      ·
        replace hR := ifT hR hc292
        obtain rfl : x_261 = true := hc292
        refine Plan.pickTb rfl rfl rfl ?_
        refine Plan.move_bool rfl rfl ?_
        refine Plan.move_ptr rfl rfl ?_
        have h293 := St.pickT (C := [_, _, _, _, _, _, _, _]) h287 [0, 2, 4, 6, 1, 3, 5, 7] (by decide)
        simp only [pick, List.filterMap_cons, List.filterMap_nil, List.getElem?_cons_zero, List.getElem?_cons_succ, List.cons_append, List.nil_append] at h293
        obtain ⟨x_295, hr294, hR⟩ := hR
        refine Plan.call (vs := [.pointer (some ⟨b4, 0, none⟩)]) rfl FKdfExact.call44 rfl (lethelaw03_Book_Holds_ok (by exact (LV.grow D22_lifts (fun r hr => List.mem_append_right [_, _, _, _] ((fun _ h => h) r hr)) (LO.lvf EL.at_flat ho288 0 rfl))) (by exact (LV.grow D22_lifts (fun r hr => List.mem_append_right [_, _, _, _] ((fun _ h => h) r hr)) (LO.lvf EL.at_flat ho289 1 rfl))) (by exact (LV.grow D62_lifts (fun r hr => List.mem_append_right [_, _, _, _] ((fun _ h => h) r hr)) (LO.lvf EL.at_flat ho290 2 rfl))) (by exact (LV.grow D62_lifts (fun r hr => List.mem_append_right [_, _, _, _] ((fun _ h => h) r hr)) (LO.lvf EL.at_flat ho291 3 rfl))) hr294 h293) ?_
        rintro _ w296 ⟨rfl, h296⟩
        refine ⟨_, rfl, .inl ⟨PIn.keep PIn.nil h296, ?_⟩⟩
        refine Plan.pickTb rfl rfl rfl ?_
        refine Plan.assign_bool rfl rfl ?_
        refine Plan.nil ?_
        refine hK225 _ _ ?_; clear hK225
        refine W.ret (finR_ret ?_)
        have h297 := St.pickT (C := [_, _, _, _, _, _, _, _]) h296 [] (by decide)
        simp only [pick, List.filterMap_cons, List.filterMap_nil, List.getElem?_cons_zero, List.getElem?_cons_succ, List.cons_append, List.nil_append] at h297
        subst r
        refine RetOk.mk (.tmp_bool rfl .nil) ?_
        obtain ⟨CF, hx1, hx2⟩ := hFr
        subst hx1
        have hdr := St.dropC (N := []) h297
        exact ⟨rfl, hdr⟩
      ·
        replace hR := ifF hR hc292
        obtain rfl : x_261 = false := Bool.eq_false_iff.2 hc292
        refine Plan.pickTb rfl rfl rfl ?_
        refine Plan.move_bool rfl rfl ?_
        refine Plan.passed rfl ?_
        refine Plan.passed rfl ?_
        refine Plan.pickFb rfl rfl rfl ?_
        refine Plan.assign_bool rfl rfl ?_
        refine Plan.nil ?_
        refine hK225 _ _ ?_; clear hK225
        refine W.ret (finR_ret ?_)
        have h298 := St.pickT (C := [_, _, _, _, _, _, _, _]) h287 [] (by decide)
        simp only [pick, List.filterMap_cons, List.filterMap_nil, List.getElem?_cons_zero, List.getElem?_cons_succ, List.cons_append, List.nil_append] at h298
        subst r
        refine RetOk.mk (.tmp_bool rfl .nil) ?_
        obtain ⟨CF, hx1, hx2⟩ := hFr
        subst hx1
        have hdr := St.dropC (N := []) h298
        exact ⟨rfl, hdr⟩
    ·
      replace hR := ifF hR hc259
      obtain rfl : x_228 = false := Bool.eq_false_iff.2 hc259
      refine Plan.move_bool rfl rfl ?_
      refine Plan.passed rfl ?_
      refine Plan.passed rfl ?_
      refine Plan.passed rfl ?_
      refine Plan.pickFb rfl rfl rfl ?_
      refine Plan.move_bool rfl rfl ?_
      refine Plan.passed rfl ?_
      refine Plan.passed rfl ?_
      refine Plan.pickFb rfl rfl rfl ?_
      refine Plan.assign_bool rfl rfl ?_
      refine Plan.nil ?_
      refine hK225 _ _ ?_; clear hK225
      refine W.ret (finR_ret ?_)
      have h299 := St.pickT (C := [_, _, _, _, _, _, _, _]) h254 [] (by decide)
      simp only [pick, List.filterMap_cons, List.filterMap_nil, List.getElem?_cons_zero, List.getElem?_cons_succ, List.cons_append, List.nil_append] at h299
      subst r
      refine RetOk.mk (.tmp_bool rfl .nil) ?_
      obtain ⟨CF, hx1, hx2⟩ := hFr
      subst hx1
      have hdr := St.dropC (N := []) h299
      exact ⟨rfl, hdr⟩

end Go.Proofs.YtjdgbahjpdopbaaDoor
