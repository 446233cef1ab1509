/-
 PLAIN (own work): every script of calls on three hashes answers as the document says.
-/
import Derived.Test.YtjdgbahjpdopbaaDoorRShaExact
import Derived.Test.YtjdgbahjpdopbaaDoorPm
namespace Go.Proofs.YtjdgbahjpdopbaaDoor
set_option linter.unusedSimpArgs false
set_option linter.unusedVariables false
set_option linter.unusedSectionVars false
open Go Go.LW
theorem ipos {c : Prop} [Decidable c] {t e : Prop} (h : c) (x : t) : if c then t else e := (if_pos h).symm ▸ x
theorem ineg {c : Prop} [Decidable c] {t e : Prop} (h : ¬ c) (x : e) : if c then t else e := (if_neg h).symm ▸ x
theorem eqB_self {w : Nat} (n : Nat) (x : Nat → BitVec w) : eqB n x x = true := by simp [eqB]
abbrev SOp := Int × Int × Int × (List Byte) × (List Byte) × (Nat → BitVec 32) × (Nat → BitVec 8)
abbrev opOf (script : List SOp) (i : Nat) : SOp := script.getD i ((0 : Int), (0 : Int), (0 : Int), ([] : List Byte), ([] : List Byte), (fun _ => 0#32), (fun _ => 0#8))
abbrev SSt := Nat × (Nat → BitVec 32) × (Nat → BitVec 8) × Int × (Nat → BitVec 32) × (Nat → BitVec 8) × Int × (Nat → BitVec 32) × (Nat → BitVec 8) × Int × (List Byte) × (List Byte) × (List Byte)
def HJ (s : Nat → BitVec 32) (k : Nat → BitVec 8) (n : Int) (b : List Byte) (m : Nat) : Prop := Hold b s k ∧ n = ((b.length : Nat) : Int) ∧ b.length ≤ m
theorem HJ.new {m : Nat} : HJ H256 (fun _ => 0#8) ((0 : Nat) : Int) [] m := ⟨Hold.nil, rfl, Nat.zero_le _⟩
theorem HJ.up {s : Nat → BitVec 32} {k : Nat → BitVec 8} {n : Int} {b : List Byte} {m m' : Nat} (h : HJ s k n b m) (hm : m ≤ m') : HJ s k n b m' := ⟨h.1, h.2.1, Nat.le_trans h.2.2 hm⟩
theorem HJ.copy {s : Nat → BitVec 32} {k : Nat → BitVec 8} {n : Int} {b : List Byte} {m : Nat} (h : HJ s k n b m) : HJ s k n ([] ++ b) m := h
theorem HJ.write {s : Nat → BitVec 32} {k : Nat → BitVec 8} {n : Int} {b Y : List Byte} {m : Nat} (h : HJ s k n b m) (hY : Y.length ≤ 1048576) (hm : m ≤ 62914560) {m' : Nat} (hm' : m + 1048576 ≤ m') :
   ∃ s' k' n', sha_Hash_Write s k n Y (s', k', n') ∧ HJ s' k' n' (([] ++ b) ++ Y) m' := by
 obtain ⟨h1, rfl, h3⟩ := h
 obtain ⟨s', k', h4, h5⟩ := write_ok (Y := Y) h1 (by omega)
 exact ⟨s', k', _, h4, h5, rfl, by rw [List.length_append]; show b.length + _ ≤ _; omega⟩
theorem HJ.ask {s : Nat → BitVec 32} {k : Nat → BitVec 8} {n : Int} {b : List Byte} {m : Nat} (h : HJ s k n b m) {P : Prop} (f : sha_Hash_Sum s k n (shaL b) ∧ letheref02_Sum b (shaL b) → P) (hm : m ≤ 62914560) : P := by
 obtain ⟨h1, rfl, h3⟩ := h
 exact f ⟨sumdig_ok h1 (by omega), refsum_ok (by omega)⟩
theorem add_small {a c m : Nat} (h1 : a ≤ m) (h2 : c ≤ 1048576) (h3 : m ≤ 62914560) : a + c ≤ 140737488355328 := by omega
theorem room_ok {b : List Byte} (h : b.length ≤ 2097152) : lethelaw02_Room b ((([] : List Byte) ++ b) ++ ([209#8, 210#8, 211#8] : List Byte)) :=
 ⟨by omega, by (show ([] ++ b).length + 3 ≤ _; rw [List.nil_append]; omega), rfl⟩
theorem room_len {b : List Byte} (h : b.length ≤ 2097152) : ((([] : List Byte) ++ b) ++ ([209#8, 210#8, 211#8] : List Byte)).length ≤ 4194304 := by rw [List.length_append]; show b.length + 3 ≤ _; omega
theorem room_le (b : List Byte) : b.length ≤ ((([] : List Byte) ++ b) ++ ([209#8, 210#8, 211#8] : List Byte)).length := by rw [List.length_append]; exact Nat.le_add_right _ _
theorem room_seg (b : List Byte) : seg ((([] : List Byte) ++ b) ++ ([209#8, 210#8, 211#8] : List Byte)) 0 b.length = b := by
 unfold seg; simp
theorem kept_ok {b : List Byte} (h : b.length ≤ 2097152) : lethelaw02_Kept ((([] : List Byte) ++ b) ++ ([209#8, 210#8, 211#8] : List Byte)) b true :=
 ⟨_, room_ok h, _, rfl, (decide_eq_true rfl).symm⟩
theorem rest3 (n : Int) : lethelaw02_rest n 3 0 ∨ lethelaw02_rest n 3 1 ∨ lethelaw02_rest n 3 2 := by
 have h1 := Int.tmod_lt_of_pos n (b := 3) (by decide)
 have h2 : -3 < n.tmod 3 := by have := Int.lt_tmod_of_pos n (b := 3) (by decide); omega
 generalize hk : n.tmod 3 = k at h1 h2
 unfold lethelaw02_rest
 rw [hk]
 have : k = -2 ∨ k = -1 ∨ k = 0 ∨ k = 1 ∨ k = 2 := by omega
 rcases this with rfl | rfl | rfl | rfl | rfl <;> decide
theorem moves_ok : lethelaw02_moves true := by
 obtain ⟨s', k', h1, h2⟩ := write_ok (Y := ([1#8, 2#8, 3#8] : List Byte)) Hold.nil (by decide)
 exact ⟨_, _, _, rfl, _, _, _, h1, _, rfl, rfl⟩
theorem wipe1 (x : List Byte) (h : x.length ≤ 4194304) : Iter (lethelaw02_ShaExact_l1 x) (x, 0) () := by
 obtain ⟨u, h1, _⟩ := iter_go (step := lethelaw02_ShaExact_l1 x) (fun _ => True) (fun _ => True) (fun s => x.length - s.2) (by
   rintro ⟨y, k⟩ -
   by_cases hk : k < x.length
   · exact .inr ⟨_, ipos hk ⟨hk, by omega, rfl⟩, trivial, by (show x.length - (k + 1) < x.length - k; omega)⟩
   · exact .inl ⟨(), ineg hk rfl, trivial⟩) (x.length + 1) (x, 0) (by (show x.length - 0 < _; omega)) trivial
 exact h1
theorem wipe2 (x : List Byte) (h : x.length ≤ 4194304) : Iter (lethelaw02_ShaExact_l2 x) (x, 0) () := by
 obtain ⟨u, h1, _⟩ := iter_go (step := lethelaw02_ShaExact_l2 x) (fun _ => True) (fun _ => True) (fun s => x.length - s.2) (by
   rintro ⟨y, k⟩ -
   by_cases hk : k < x.length
   · exact .inr ⟨_, ipos hk ⟨hk, by omega, rfl⟩, trivial, by (show x.length - (k + 1) < x.length - k; omega)⟩
   · exact .inl ⟨(), ineg hk rfl, trivial⟩) (x.length + 1) (x, 0) (by (show x.length - 0 < _; omega)) trivial
 exact h1
theorem wipe3 (x : List Byte) (h : x.length ≤ 4194304) : Iter (lethelaw02_ShaExact_l3 x) (x, 0) () := by
 obtain ⟨u, h1, _⟩ := iter_go (step := lethelaw02_ShaExact_l3 x) (fun _ => True) (fun _ => True) (fun s => x.length - s.2) (by
   rintro ⟨y, k⟩ -
   by_cases hk : k < x.length
   · exact .inr ⟨_, ipos hk ⟨hk, by omega, rfl⟩, trivial, by (show x.length - (k + 1) < x.length - k; omega)⟩
   · exact .inl ⟨(), ineg hk rfl, trivial⟩) (x.length + 1) (x, 0) (by (show x.length - 0 < _; omega)) trivial
 exact h1
theorem opOf_ok {script : List SOp} (hQ : ∀ (j : Nat) x, script[j]? = some x → x.2.2.2.1.length ≤ 1048576 ∧ x.2.2.2.2.1.length ≤ 1048576) {i : Nat} (hi : i < script.length) : (opOf script i).2.2.2.1.length ≤ 1048576 ∧ (opOf script i).2.2.2.2.1.length ≤ 1048576 := by
 have h := hQ i _ (List.getElem?_eq_getElem hi)
 unfold opOf
 rw [List.getD_eq_getElem?_getD, List.getElem?_eq_getElem hi]
 exact h
theorem step_in {script : List SOp} {i : Nat} {t e u : Prop} (hi : i < script.length) (h60 : i < 60) (x : t) : if i < script.length then (if i < 60 then t else e) else u := ipos hi (ipos h60 x)
def SI (s : SSt) : Prop := match s with
 | (i, s0, k0, n0, s1, k1, n1, s2, k2, n2, b0, b1, b2) => i ≤ 60 ∧ HJ s0 k0 n0 b0 (i * 1048576) ∧ HJ s1 k1 n1 b1 (i * 1048576) ∧ HJ s2 k2 n2 b2 (i * 1048576)
theorem st_3_0_0 {script : List SOp} {i : Nat} {s0 s1 s2 : Nat → BitVec 32} {k0 k1 k2 : Nat → BitVec 8} {n0 n1 n2 : Int} {b0 b1 b2 : List Byte} (hi : i < script.length) (h60 : i < 60) (j0 : HJ s0 k0 n0 b0 (i * 1048576)) (j1 : HJ s1 k1 n1 b1 (i * 1048576)) (j2 : HJ s2 k2 n2 b2 (i * 1048576)) (hB : (opOf script i).2.2.2.1.length ≤ 1048576) (h1 : ¬ (opOf script i).1 = 1) (h2 : ¬ (opOf script i).1 = 2) (g3 : (opOf script i).1 = 3) (hw : lethelaw02_rest (opOf script i).2.1 3 0) (ht : lethelaw02_rest (opOf script i).2.2.1 3 0) :
   ∃ s', lethelaw02_ShaExact_l0 script true (i, s0, k0, n0, s1, k1, n1, s2, k2, n2, b0, b1, b2) (.inl s') ∧ SI s' ∧ 60 - s'.1 < 60 - i := by
 have hm : i * 1048576 ≤ 62914560 := by omega
 have hB2 : (opOf script i).2.2.2.1.length ≤ 2097152 := by omega
 have l0 := j0.2.2
 have l1 := j1.2.2
 have l2 := j2.2.2
 exact ⟨(i + 1, H256, (fun _ => 0#8), ((0 : Nat) : Int), s1, k1, n1, s2, k2, n2, [], b1, b2), step_in hi h60 ⟨hi, true, H256, (fun _ => 0#8), ((0 : Nat) : Int), s1, k1, n1, s2, k2, n2, [], b1, b2, ineg h1 (ineg h2 ⟨true, H256, (fun _ => 0#8), ((0 : Nat) : Int), s1, k1, n1, s2, k2, n2, [], b1, b2, ⟨0, hw, 0, ht, true, 0, 0, H256, (fun _ => 0#8), ((0 : Nat) : Int), s1, k1, n1, s2, k2, n2, [], b1, b2, ipos g3 (ipos rfl (⟨H256, (fun _ => 0#8), 0, rfl, rfl, rfl, rfl, rfl, rfl, rfl, rfl, rfl, rfl, rfl, rfl, rfl, rfl, rfl, rfl⟩)), fun _ => ipos rfl (ipos rfl (⟨rfl, rfl, rfl, rfl, rfl, rfl, rfl, rfl, rfl, rfl, rfl, rfl, rfl⟩))⟩, rfl, rfl, rfl, rfl, rfl, rfl, rfl, rfl, rfl, rfl, rfl, rfl, rfl⟩), ipos rfl rfl⟩, ⟨by omega, (HJ.new), (j1.up (by omega)), (j2.up (by omega))⟩, by show 60 - (i + 1) < 60 - i; omega⟩
theorem st_3_0_1 {script : List SOp} {i : Nat} {s0 s1 s2 : Nat → BitVec 32} {k0 k1 k2 : Nat → BitVec 8} {n0 n1 n2 : Int} {b0 b1 b2 : List Byte} (hi : i < script.length) (h60 : i < 60) (j0 : HJ s0 k0 n0 b0 (i * 1048576)) (j1 : HJ s1 k1 n1 b1 (i * 1048576)) (j2 : HJ s2 k2 n2 b2 (i * 1048576)) (hB : (opOf script i).2.2.2.1.length ≤ 1048576) (h1 : ¬ (opOf script i).1 = 1) (h2 : ¬ (opOf script i).1 = 2) (g3 : (opOf script i).1 = 3) (hw : lethelaw02_rest (opOf script i).2.1 3 0) (ht : lethelaw02_rest (opOf script i).2.2.1 3 1) :
   ∃ s', lethelaw02_ShaExact_l0 script true (i, s0, k0, n0, s1, k1, n1, s2, k2, n2, b0, b1, b2) (.inl s') ∧ SI s' ∧ 60 - s'.1 < 60 - i := by
 have hm : i * 1048576 ≤ 62914560 := by omega
 have hB2 : (opOf script i).2.2.2.1.length ≤ 2097152 := by omega
 have l0 := j0.2.2
 have l1 := j1.2.2
 have l2 := j2.2.2
 exact ⟨(i + 1, H256, (fun _ => 0#8), ((0 : Nat) : Int), s1, k1, n1, s2, k2, n2, [], b1, b2), step_in hi h60 ⟨hi, true, H256, (fun _ => 0#8), ((0 : Nat) : Int), s1, k1, n1, s2, k2, n2, [], b1, b2, ineg h1 (ineg h2 ⟨true, H256, (fun _ => 0#8), ((0 : Nat) : Int), s1, k1, n1, s2, k2, n2, [], b1, b2, ⟨0, hw, 1, ht, true, 0, 1, H256, (fun _ => 0#8), ((0 : Nat) : Int), s1, k1, n1, s2, k2, n2, [], b1, b2, ipos g3 (ipos rfl (⟨H256, (fun _ => 0#8), 0, rfl, rfl, rfl, rfl, rfl, rfl, rfl, rfl, rfl, rfl, rfl, rfl, rfl, rfl, rfl, rfl⟩)), fun _ => ipos rfl (ineg (by decide) (ipos rfl (⟨rfl, rfl, rfl, rfl, rfl, rfl, rfl, rfl, rfl, rfl, rfl, rfl, rfl⟩)))⟩, rfl, rfl, rfl, rfl, rfl, rfl, rfl, rfl, rfl, rfl, rfl, rfl, rfl⟩), ipos rfl rfl⟩, ⟨by omega, (HJ.new), (j1.up (by omega)), (j2.up (by omega))⟩, by show 60 - (i + 1) < 60 - i; omega⟩
theorem st_3_0_2 {script : List SOp} {i : Nat} {s0 s1 s2 : Nat → BitVec 32} {k0 k1 k2 : Nat → BitVec 8} {n0 n1 n2 : Int} {b0 b1 b2 : List Byte} (hi : i < script.length) (h60 : i < 60) (j0 : HJ s0 k0 n0 b0 (i * 1048576)) (j1 : HJ s1 k1 n1 b1 (i * 1048576)) (j2 : HJ s2 k2 n2 b2 (i * 1048576)) (hB : (opOf script i).2.2.2.1.length ≤ 1048576) (h1 : ¬ (opOf script i).1 = 1) (h2 : ¬ (opOf script i).1 = 2) (g3 : (opOf script i).1 = 3) (hw : lethelaw02_rest (opOf script i).2.1 3 0) (ht : lethelaw02_rest (opOf script i).2.2.1 3 2) :
   ∃ s', lethelaw02_ShaExact_l0 script true (i, s0, k0, n0, s1, k1, n1, s2, k2, n2, b0, b1, b2) (.inl s') ∧ SI s' ∧ 60 - s'.1 < 60 - i := by
 have hm : i * 1048576 ≤ 62914560 := by omega
 have hB2 : (opOf script i).2.2.2.1.length ≤ 2097152 := by omega
 have l0 := j0.2.2
 have l1 := j1.2.2
 have l2 := j2.2.2
 exact ⟨(i + 1, H256, (fun _ => 0#8), ((0 : Nat) : Int), s1, k1, n1, s2, k2, n2, [], b1, b2), step_in hi h60 ⟨hi, true, H256, (fun _ => 0#8), ((0 : Nat) : Int), s1, k1, n1, s2, k2, n2, [], b1, b2, ineg h1 (ineg h2 ⟨true, H256, (fun _ => 0#8), ((0 : Nat) : Int), s1, k1, n1, s2, k2, n2, [], b1, b2, ⟨0, hw, 2, ht, true, 0, 2, H256, (fun _ => 0#8), ((0 : Nat) : Int), s1, k1, n1, s2, k2, n2, [], b1, b2, ipos g3 (ipos rfl (⟨H256, (fun _ => 0#8), 0, rfl, rfl, rfl, rfl, rfl, rfl, rfl, rfl, rfl, rfl, rfl, rfl, rfl, rfl, rfl, rfl⟩)), fun _ => ipos rfl (ineg (by decide) (ineg (by decide) ⟨rfl, ⟨rfl, rfl, rfl, rfl, rfl, rfl, rfl, rfl, rfl, rfl, rfl, rfl, rfl⟩⟩))⟩, rfl, rfl, rfl, rfl, rfl, rfl, rfl, rfl, rfl, rfl, rfl, rfl, rfl⟩), ipos rfl rfl⟩, ⟨by omega, (HJ.new), (j1.up (by omega)), (j2.up (by omega))⟩, by show 60 - (i + 1) < 60 - i; omega⟩
theorem st_3_1_0 {script : List SOp} {i : Nat} {s0 s1 s2 : Nat → BitVec 32} {k0 k1 k2 : Nat → BitVec 8} {n0 n1 n2 : Int} {b0 b1 b2 : List Byte} (hi : i < script.length) (h60 : i < 60) (j0 : HJ s0 k0 n0 b0 (i * 1048576)) (j1 : HJ s1 k1 n1 b1 (i * 1048576)) (j2 : HJ s2 k2 n2 b2 (i * 1048576)) (hB : (opOf script i).2.2.2.1.length ≤ 1048576) (h1 : ¬ (opOf script i).1 = 1) (h2 : ¬ (opOf script i).1 = 2) (g3 : (opOf script i).1 = 3) (hw : lethelaw02_rest (opOf script i).2.1 3 1) (ht : lethelaw02_rest (opOf script i).2.2.1 3 0) :
   ∃ s', lethelaw02_ShaExact_l0 script true (i, s0, k0, n0, s1, k1, n1, s2, k2, n2, b0, b1, b2) (.inl s') ∧ SI s' ∧ 60 - s'.1 < 60 - i := by
 have hm : i * 1048576 ≤ 62914560 := by omega
 have hB2 : (opOf script i).2.2.2.1.length ≤ 2097152 := by omega
 have l0 := j0.2.2
 have l1 := j1.2.2
 have l2 := j2.2.2
 exact ⟨(i + 1, s0, k0, n0, H256, (fun _ => 0#8), ((0 : Nat) : Int), s2, k2, n2, b0, [], b2), step_in hi h60 ⟨hi, true, s0, k0, n0, H256, (fun _ => 0#8), ((0 : Nat) : Int), s2, k2, n2, b0, [], b2, ineg h1 (ineg h2 ⟨true, s0, k0, n0, H256, (fun _ => 0#8), ((0 : Nat) : Int), s2, k2, n2, b0, [], b2, ⟨1, hw, 0, ht, true, 1, 0, s0, k0, n0, H256, (fun _ => 0#8), ((0 : Nat) : Int), s2, k2, n2, b0, [], b2, ipos g3 (ineg (by decide) (ipos rfl (⟨H256, (fun _ => 0#8), 0, rfl, rfl, rfl, rfl, rfl, rfl, rfl, rfl, rfl, rfl, rfl, rfl, rfl, rfl, rfl, rfl⟩))), fun _ => ineg (by decide) (ipos rfl (ipos rfl (⟨rfl, rfl, rfl, rfl, rfl, rfl, rfl, rfl, rfl, rfl, rfl, rfl, rfl⟩)))⟩, rfl, rfl, rfl, rfl, rfl, rfl, rfl, rfl, rfl, rfl, rfl, rfl, rfl⟩), ipos rfl rfl⟩, ⟨by omega, (j0.up (by omega)), (HJ.new), (j2.up (by omega))⟩, by show 60 - (i + 1) < 60 - i; omega⟩
theorem st_3_1_1 {script : List SOp} {i : Nat} {s0 s1 s2 : Nat → BitVec 32} {k0 k1 k2 : Nat → BitVec 8} {n0 n1 n2 : Int} {b0 b1 b2 : List Byte} (hi : i < script.length) (h60 : i < 60) (j0 : HJ s0 k0 n0 b0 (i * 1048576)) (j1 : HJ s1 k1 n1 b1 (i * 1048576)) (j2 : HJ s2 k2 n2 b2 (i * 1048576)) (hB : (opOf script i).2.2.2.1.length ≤ 1048576) (h1 : ¬ (opOf script i).1 = 1) (h2 : ¬ (opOf script i).1 = 2) (g3 : (opOf script i).1 = 3) (hw : lethelaw02_rest (opOf script i).2.1 3 1) (ht : lethelaw02_rest (opOf script i).2.2.1 3 1) :
   ∃ s', lethelaw02_ShaExact_l0 script true (i, s0, k0, n0, s1, k1, n1, s2, k2, n2, b0, b1, b2) (.inl s') ∧ SI s' ∧ 60 - s'.1 < 60 - i := by
 have hm : i * 1048576 ≤ 62914560 := by omega
 have hB2 : (opOf script i).2.2.2.1.length ≤ 2097152 := by omega
 have l0 := j0.2.2
 have l1 := j1.2.2
 have l2 := j2.2.2
 exact ⟨(i + 1, s0, k0, n0, H256, (fun _ => 0#8), ((0 : Nat) : Int), s2, k2, n2, b0, [], b2), step_in hi h60 ⟨hi, true, s0, k0, n0, H256, (fun _ => 0#8), ((0 : Nat) : Int), s2, k2, n2, b0, [], b2, ineg h1 (ineg h2 ⟨true, s0, k0, n0, H256, (fun _ => 0#8), ((0 : Nat) : Int), s2, k2, n2, b0, [], b2, ⟨1, hw, 1, ht, true, 1, 1, s0, k0, n0, H256, (fun _ => 0#8), ((0 : Nat) : Int), s2, k2, n2, b0, [], b2, ipos g3 (ineg (by decide) (ipos rfl (⟨H256, (fun _ => 0#8), 0, rfl, rfl, rfl, rfl, rfl, rfl, rfl, rfl, rfl, rfl, rfl, rfl, rfl, rfl, rfl, rfl⟩))), fun _ => ineg (by decide) (ipos rfl (ineg (by decide) (ipos rfl (⟨rfl, rfl, rfl, rfl, rfl, rfl, rfl, rfl, rfl, rfl, rfl, rfl, rfl⟩))))⟩, rfl, rfl, rfl, rfl, rfl, rfl, rfl, rfl, rfl, rfl, rfl, rfl, rfl⟩), ipos rfl rfl⟩, ⟨by omega, (j0.up (by omega)), (HJ.new), (j2.up (by omega))⟩, by show 60 - (i + 1) < 60 - i; omega⟩
theorem st_3_1_2 {script : List SOp} {i : Nat} {s0 s1 s2 : Nat → BitVec 32} {k0 k1 k2 : Nat → BitVec 8} {n0 n1 n2 : Int} {b0 b1 b2 : List Byte} (hi : i < script.length) (h60 : i < 60) (j0 : HJ s0 k0 n0 b0 (i * 1048576)) (j1 : HJ s1 k1 n1 b1 (i * 1048576)) (j2 : HJ s2 k2 n2 b2 (i * 1048576)) (hB : (opOf script i).2.2.2.1.length ≤ 1048576) (h1 : ¬ (opOf script i).1 = 1) (h2 : ¬ (opOf script i).1 = 2) (g3 : (opOf script i).1 = 3) (hw : lethelaw02_rest (opOf script i).2.1 3 1) (ht : lethelaw02_rest (opOf script i).2.2.1 3 2) :
   ∃ s', lethelaw02_ShaExact_l0 script true (i, s0, k0, n0, s1, k1, n1, s2, k2, n2, b0, b1, b2) (.inl s') ∧ SI s' ∧ 60 - s'.1 < 60 - i := by
 have hm : i * 1048576 ≤ 62914560 := by omega
 have hB2 : (opOf script i).2.2.2.1.length ≤ 2097152 := by omega
 have l0 := j0.2.2
 have l1 := j1.2.2
 have l2 := j2.2.2
 exact ⟨(i + 1, s0, k0, n0, H256, (fun _ => 0#8), ((0 : Nat) : Int), s2, k2, n2, b0, [], b2), step_in hi h60 ⟨hi, true, s0, k0, n0, H256, (fun _ => 0#8), ((0 : Nat) : Int), s2, k2, n2, b0, [], b2, ineg h1 (ineg h2 ⟨true, s0, k0, n0, H256, (fun _ => 0#8), ((0 : Nat) : Int), s2, k2, n2, b0, [], b2, ⟨1, hw, 2, ht, true, 1, 2, s0, k0, n0, H256, (fun _ => 0#8), ((0 : Nat) : Int), s2, k2, n2, b0, [], b2, ipos g3 (ineg (by decide) (ipos rfl (⟨H256, (fun _ => 0#8), 0, rfl, rfl, rfl, rfl, rfl, rfl, rfl, rfl, rfl, rfl, rfl, rfl, rfl, rfl, rfl, rfl⟩))), fun _ => ineg (by decide) (ipos rfl (ineg (by decide) (ineg (by decide) ⟨rfl, ⟨rfl, rfl, rfl, rfl, rfl, rfl, rfl, rfl, rfl, rfl, rfl, rfl, rfl⟩⟩)))⟩, rfl, rfl, rfl, rfl, rfl, rfl, rfl, rfl, rfl, rfl, rfl, rfl, rfl⟩), ipos rfl rfl⟩, ⟨by omega, (j0.up (by omega)), (HJ.new), (j2.up (by omega))⟩, by show 60 - (i + 1) < 60 - i; omega⟩
theorem st_3_2_0 {script : List SOp} {i : Nat} {s0 s1 s2 : Nat → BitVec 32} {k0 k1 k2 : Nat → BitVec 8} {n0 n1 n2 : Int} {b0 b1 b2 : List Byte} (hi : i < script.length) (h60 : i < 60) (j0 : HJ s0 k0 n0 b0 (i * 1048576)) (j1 : HJ s1 k1 n1 b1 (i * 1048576)) (j2 : HJ s2 k2 n2 b2 (i * 1048576)) (hB : (opOf script i).2.2.2.1.length ≤ 1048576) (h1 : ¬ (opOf script i).1 = 1) (h2 : ¬ (opOf script i).1 = 2) (g3 : (opOf script i).1 = 3) (hw : lethelaw02_rest (opOf script i).2.1 3 2) (ht : lethelaw02_rest (opOf script i).2.2.1 3 0) :
   ∃ s', lethelaw02_ShaExact_l0 script true (i, s0, k0, n0, s1, k1, n1, s2, k2, n2, b0, b1, b2) (.inl s') ∧ SI s' ∧ 60 - s'.1 < 60 - i := by
 have hm : i * 1048576 ≤ 62914560 := by omega
 have hB2 : (opOf script i).2.2.2.1.length ≤ 2097152 := by omega
 have l0 := j0.2.2
 have l1 := j1.2.2
 have l2 := j2.2.2
 exact ⟨(i + 1, s0, k0, n0, s1, k1, n1, H256, (fun _ => 0#8), ((0 : Nat) : Int), b0, b1, []), step_in hi h60 ⟨hi, true, s0, k0, n0, s1, k1, n1, H256, (fun _ => 0#8), ((0 : Nat) : Int), b0, b1, [], ineg h1 (ineg h2 ⟨true, s0, k0, n0, s1, k1, n1, H256, (fun _ => 0#8), ((0 : Nat) : Int), b0, b1, [], ⟨2, hw, 0, ht, true, 2, 0, s0, k0, n0, s1, k1, n1, H256, (fun _ => 0#8), ((0 : Nat) : Int), b0, b1, [], ipos g3 (ineg (by decide) (ineg (by decide) ⟨rfl, ⟨H256, (fun _ => 0#8), 0, rfl, rfl, rfl, rfl, rfl, rfl, rfl, rfl, rfl, rfl, rfl, rfl, rfl, rfl, rfl, rfl⟩⟩)), fun _ => ineg (by decide) (ineg (by decide) ⟨rfl, ipos rfl (⟨rfl, rfl, rfl, rfl, rfl, rfl, rfl, rfl, rfl, rfl, rfl, rfl, rfl⟩)⟩)⟩, rfl, rfl, rfl, rfl, rfl, rfl, rfl, rfl, rfl, rfl, rfl, rfl, rfl⟩), ipos rfl rfl⟩, ⟨by omega, (j0.up (by omega)), (j1.up (by omega)), (HJ.new)⟩, by show 60 - (i + 1) < 60 - i; omega⟩
theorem st_3_2_1 {script : List SOp} {i : Nat} {s0 s1 s2 : Nat → BitVec 32} {k0 k1 k2 : Nat → BitVec 8} {n0 n1 n2 : Int} {b0 b1 b2 : List Byte} (hi : i < script.length) (h60 : i < 60) (j0 : HJ s0 k0 n0 b0 (i * 1048576)) (j1 : HJ s1 k1 n1 b1 (i * 1048576)) (j2 : HJ s2 k2 n2 b2 (i * 1048576)) (hB : (opOf script i).2.2.2.1.length ≤ 1048576) (h1 : ¬ (opOf script i).1 = 1) (h2 : ¬ (opOf script i).1 = 2) (g3 : (opOf script i).1 = 3) (hw : lethelaw02_rest (opOf script i).2.1 3 2) (ht : lethelaw02_rest (opOf script i).2.2.1 3 1) :
   ∃ s', lethelaw02_ShaExact_l0 script true (i, s0, k0, n0, s1, k1, n1, s2, k2, n2, b0, b1, b2) (.inl s') ∧ SI s' ∧ 60 - s'.1 < 60 - i := by
 have hm : i * 1048576 ≤ 62914560 := by omega
 have hB2 : (opOf script i).2.2.2.1.length ≤ 2097152 := by omega
 have l0 := j0.2.2
 have l1 := j1.2.2
 have l2 := j2.2.2
 exact ⟨(i + 1, s0, k0, n0, s1, k1, n1, H256, (fun _ => 0#8), ((0 : Nat) : Int), b0, b1, []), step_in hi h60 ⟨hi, true, s0, k0, n0, s1, k1, n1, H256, (fun _ => 0#8), ((0 : Nat) : Int), b0, b1, [], ineg h1 (ineg h2 ⟨true, s0, k0, n0, s1, k1, n1, H256, (fun _ => 0#8), ((0 : Nat) : Int), b0, b1, [], ⟨2, hw, 1, ht, true, 2, 1, s0, k0, n0, s1, k1, n1, H256, (fun _ => 0#8), ((0 : Nat) : Int), b0, b1, [], ipos g3 (ineg (by decide) (ineg (by decide) ⟨rfl, ⟨H256, (fun _ => 0#8), 0, rfl, rfl, rfl, rfl, rfl, rfl, rfl, rfl, rfl, rfl, rfl, rfl, rfl, rfl, rfl, rfl⟩⟩)), fun _ => ineg (by decide) (ineg (by decide) ⟨rfl, ineg (by decide) (ipos rfl (⟨rfl, rfl, rfl, rfl, rfl, rfl, rfl, rfl, rfl, rfl, rfl, rfl, rfl⟩))⟩)⟩, rfl, rfl, rfl, rfl, rfl, rfl, rfl, rfl, rfl, rfl, rfl, rfl, rfl⟩), ipos rfl rfl⟩, ⟨by omega, (j0.up (by omega)), (j1.up (by omega)), (HJ.new)⟩, by show 60 - (i + 1) < 60 - i; omega⟩
theorem st_3_2_2 {script : List SOp} {i : Nat} {s0 s1 s2 : Nat → BitVec 32} {k0 k1 k2 : Nat → BitVec 8} {n0 n1 n2 : Int} {b0 b1 b2 : List Byte} (hi : i < script.length) (h60 : i < 60) (j0 : HJ s0 k0 n0 b0 (i * 1048576)) (j1 : HJ s1 k1 n1 b1 (i * 1048576)) (j2 : HJ s2 k2 n2 b2 (i * 1048576)) (hB : (opOf script i).2.2.2.1.length ≤ 1048576) (h1 : ¬ (opOf script i).1 = 1) (h2 : ¬ (opOf script i).1 = 2) (g3 : (opOf script i).1 = 3) (hw : lethelaw02_rest (opOf script i).2.1 3 2) (ht : lethelaw02_rest (opOf script i).2.2.1 3 2) :
   ∃ s', lethelaw02_ShaExact_l0 script true (i, s0, k0, n0, s1, k1, n1, s2, k2, n2, b0, b1, b2) (.inl s') ∧ SI s' ∧ 60 - s'.1 < 60 - i := by
 have hm : i * 1048576 ≤ 62914560 := by omega
 have hB2 : (opOf script i).2.2.2.1.length ≤ 2097152 := by omega
 have l0 := j0.2.2
 have l1 := j1.2.2
 have l2 := j2.2.2
 exact ⟨(i + 1, s0, k0, n0, s1, k1, n1, H256, (fun _ => 0#8), ((0 : Nat) : Int), b0, b1, []), step_in hi h60 ⟨hi, true, s0, k0, n0, s1, k1, n1, H256, (fun _ => 0#8), ((0 : Nat) : Int), b0, b1, [], ineg h1 (ineg h2 ⟨true, s0, k0, n0, s1, k1, n1, H256, (fun _ => 0#8), ((0 : Nat) : Int), b0, b1, [], ⟨2, hw, 2, ht, true, 2, 2, s0, k0, n0, s1, k1, n1, H256, (fun _ => 0#8), ((0 : Nat) : Int), b0, b1, [], ipos g3 (ineg (by decide) (ineg (by decide) ⟨rfl, ⟨H256, (fun _ => 0#8), 0, rfl, rfl, rfl, rfl, rfl, rfl, rfl, rfl, rfl, rfl, rfl, rfl, rfl, rfl, rfl, rfl⟩⟩)), fun _ => ineg (by decide) (ineg (by decide) ⟨rfl, ineg (by decide) (ineg (by decide) ⟨rfl, ⟨rfl, rfl, rfl, rfl, rfl, rfl, rfl, rfl, rfl, rfl, rfl, rfl, rfl⟩⟩)⟩)⟩, rfl, rfl, rfl, rfl, rfl, rfl, rfl, rfl, rfl, rfl, rfl, rfl, rfl⟩), ipos rfl rfl⟩, ⟨by omega, (j0.up (by omega)), (j1.up (by omega)), (HJ.new)⟩, by show 60 - (i + 1) < 60 - i; omega⟩
theorem st_4_0_0 {script : List SOp} {i : Nat} {s0 s1 s2 : Nat → BitVec 32} {k0 k1 k2 : Nat → BitVec 8} {n0 n1 n2 : Int} {b0 b1 b2 : List Byte} (hi : i < script.length) (h60 : i < 60) (j0 : HJ s0 k0 n0 b0 (i * 1048576)) (j1 : HJ s1 k1 n1 b1 (i * 1048576)) (j2 : HJ s2 k2 n2 b2 (i * 1048576)) (hB : (opOf script i).2.2.2.1.length ≤ 1048576) (h1 : ¬ (opOf script i).1 = 1) (h2 : ¬ (opOf script i).1 = 2) (h3 : ¬ (opOf script i).1 = 3) (g4 : (opOf script i).1 = 4) (hw : lethelaw02_rest (opOf script i).2.1 3 0) (ht : lethelaw02_rest (opOf script i).2.2.1 3 0) :
   ∃ s', lethelaw02_ShaExact_l0 script true (i, s0, k0, n0, s1, k1, n1, s2, k2, n2, b0, b1, b2) (.inl s') ∧ SI s' ∧ 60 - s'.1 < 60 - i := by
 have hm : i * 1048576 ≤ 62914560 := by omega
 have hB2 : (opOf script i).2.2.2.1.length ≤ 2097152 := by omega
 have l0 := j0.2.2
 have l1 := j1.2.2
 have l2 := j2.2.2
 obtain ⟨s', k', n', hwr, hJ'⟩ := j0.write (Y := (opOf script i).2.2.2.1) hB hm (Nat.le_of_eq (Nat.succ_mul i 1048576).symm)
 exact ⟨(i + 1, s', k', n', s1, k1, n1, s2, k2, n2, (([] ++ b0) ++ (opOf script i).2.2.2.1), b1, b2), step_in hi h60 ⟨hi, true, s', k', n', s1, k1, n1, s2, k2, n2, (([] ++ b0) ++ (opOf script i).2.2.2.1), b1, b2, ineg h1 (ineg h2 ⟨true, s', k', n', s1, k1, n1, s2, k2, n2, (([] ++ b0) ++ (opOf script i).2.2.2.1), b1, b2, ⟨0, hw, 0, ht, false, 0, 0, s0, k0, n0, s1, k1, n1, s2, k2, n2, b0, b1, b2, ineg h3 (ipos g4 (⟨_, room_ok hB2, ipos rfl (⟨⟨Nat.zero_le _, room_le _⟩, s', k', n', by rw [room_seg]; exact hwr, by omega, by (rw [List.nil_append]; exact add_small j0.2.2 hB hm), true, kept_ok hB2, wipe1 _ (room_len hB2), rfl, rfl, rfl, rfl, rfl, rfl, rfl, rfl, rfl, rfl, rfl, rfl, rfl, rfl⟩)⟩)), fun h => absurd h (by decide)⟩, rfl, rfl, rfl, rfl, rfl, rfl, rfl, rfl, rfl, rfl, rfl, rfl, rfl⟩), ipos rfl rfl⟩, ⟨by omega, (hJ'), (j1.up (by omega)), (j2.up (by omega))⟩, by show 60 - (i + 1) < 60 - i; omega⟩
theorem st_4_0_1 {script : List SOp} {i : Nat} {s0 s1 s2 : Nat → BitVec 32} {k0 k1 k2 : Nat → BitVec 8} {n0 n1 n2 : Int} {b0 b1 b2 : List Byte} (hi : i < script.length) (h60 : i < 60) (j0 : HJ s0 k0 n0 b0 (i * 1048576)) (j1 : HJ s1 k1 n1 b1 (i * 1048576)) (j2 : HJ s2 k2 n2 b2 (i * 1048576)) (hB : (opOf script i).2.2.2.1.length ≤ 1048576) (h1 : ¬ (opOf script i).1 = 1) (h2 : ¬ (opOf script i).1 = 2) (h3 : ¬ (opOf script i).1 = 3) (g4 : (opOf script i).1 = 4) (hw : lethelaw02_rest (opOf script i).2.1 3 0) (ht : lethelaw02_rest (opOf script i).2.2.1 3 1) :
   ∃ s', lethelaw02_ShaExact_l0 script true (i, s0, k0, n0, s1, k1, n1, s2, k2, n2, b0, b1, b2) (.inl s') ∧ SI s' ∧ 60 - s'.1 < 60 - i := by
 have hm : i * 1048576 ≤ 62914560 := by omega
 have hB2 : (opOf script i).2.2.2.1.length ≤ 2097152 := by omega
 have l0 := j0.2.2
 have l1 := j1.2.2
 have l2 := j2.2.2
 obtain ⟨s', k', n', hwr, hJ'⟩ := j0.write (Y := (opOf script i).2.2.2.1) hB hm (Nat.le_of_eq (Nat.succ_mul i 1048576).symm)
 exact ⟨(i + 1, s', k', n', s1, k1, n1, s2, k2, n2, (([] ++ b0) ++ (opOf script i).2.2.2.1), b1, b2), step_in hi h60 ⟨hi, true, s', k', n', s1, k1, n1, s2, k2, n2, (([] ++ b0) ++ (opOf script i).2.2.2.1), b1, b2, ineg h1 (ineg h2 ⟨true, s', k', n', s1, k1, n1, s2, k2, n2, (([] ++ b0) ++ (opOf script i).2.2.2.1), b1, b2, ⟨0, hw, 1, ht, false, 0, 1, s0, k0, n0, s1, k1, n1, s2, k2, n2, b0, b1, b2, ineg h3 (ipos g4 (⟨_, room_ok hB2, ipos rfl (⟨⟨Nat.zero_le _, room_le _⟩, s', k', n', by rw [room_seg]; exact hwr, by omega, by (rw [List.nil_append]; exact add_small j0.2.2 hB hm), true, kept_ok hB2, wipe1 _ (room_len hB2), rfl, rfl, rfl, rfl, rfl, rfl, rfl, rfl, rfl, rfl, rfl, rfl, rfl, rfl⟩)⟩)), fun h => absurd h (by decide)⟩, rfl, rfl, rfl, rfl, rfl, rfl, rfl, rfl, rfl, rfl, rfl, rfl, rfl⟩), ipos rfl rfl⟩, ⟨by omega, (hJ'), (j1.up (by omega)), (j2.up (by omega))⟩, by show 60 - (i + 1) < 60 - i; omega⟩
theorem st_4_0_2 {script : List SOp} {i : Nat} {s0 s1 s2 : Nat → BitVec 32} {k0 k1 k2 : Nat → BitVec 8} {n0 n1 n2 : Int} {b0 b1 b2 : List Byte} (hi : i < script.length) (h60 : i < 60) (j0 : HJ s0 k0 n0 b0 (i * 1048576)) (j1 : HJ s1 k1 n1 b1 (i * 1048576)) (j2 : HJ s2 k2 n2 b2 (i * 1048576)) (hB : (opOf script i).2.2.2.1.length ≤ 1048576) (h1 : ¬ (opOf script i).1 = 1) (h2 : ¬ (opOf script i).1 = 2) (h3 : ¬ (opOf script i).1 = 3) (g4 : (opOf script i).1 = 4) (hw : lethelaw02_rest (opOf script i).2.1 3 0) (ht : lethelaw02_rest (opOf script i).2.2.1 3 2) :
   ∃ s', lethelaw02_ShaExact_l0 script true (i, s0, k0, n0, s1, k1, n1, s2, k2, n2, b0, b1, b2) (.inl s') ∧ SI s' ∧ 60 - s'.1 < 60 - i := by
 have hm : i * 1048576 ≤ 62914560 := by omega
 have hB2 : (opOf script i).2.2.2.1.length ≤ 2097152 := by omega
 have l0 := j0.2.2
 have l1 := j1.2.2
 have l2 := j2.2.2
 obtain ⟨s', k', n', hwr, hJ'⟩ := j0.write (Y := (opOf script i).2.2.2.1) hB hm (Nat.le_of_eq (Nat.succ_mul i 1048576).symm)
 exact ⟨(i + 1, s', k', n', s1, k1, n1, s2, k2, n2, (([] ++ b0) ++ (opOf script i).2.2.2.1), b1, b2), step_in hi h60 ⟨hi, true, s', k', n', s1, k1, n1, s2, k2, n2, (([] ++ b0) ++ (opOf script i).2.2.2.1), b1, b2, ineg h1 (ineg h2 ⟨true, s', k', n', s1, k1, n1, s2, k2, n2, (([] ++ b0) ++ (opOf script i).2.2.2.1), b1, b2, ⟨0, hw, 2, ht, false, 0, 2, s0, k0, n0, s1, k1, n1, s2, k2, n2, b0, b1, b2, ineg h3 (ipos g4 (⟨_, room_ok hB2, ipos rfl (⟨⟨Nat.zero_le _, room_le _⟩, s', k', n', by rw [room_seg]; exact hwr, by omega, by (rw [List.nil_append]; exact add_small j0.2.2 hB hm), true, kept_ok hB2, wipe1 _ (room_len hB2), rfl, rfl, rfl, rfl, rfl, rfl, rfl, rfl, rfl, rfl, rfl, rfl, rfl, rfl⟩)⟩)), fun h => absurd h (by decide)⟩, rfl, rfl, rfl, rfl, rfl, rfl, rfl, rfl, rfl, rfl, rfl, rfl, rfl⟩), ipos rfl rfl⟩, ⟨by omega, (hJ'), (j1.up (by omega)), (j2.up (by omega))⟩, by show 60 - (i + 1) < 60 - i; omega⟩
theorem st_4_1_0 {script : List SOp} {i : Nat} {s0 s1 s2 : Nat → BitVec 32} {k0 k1 k2 : Nat → BitVec 8} {n0 n1 n2 : Int} {b0 b1 b2 : List Byte} (hi : i < script.length) (h60 : i < 60) (j0 : HJ s0 k0 n0 b0 (i * 1048576)) (j1 : HJ s1 k1 n1 b1 (i * 1048576)) (j2 : HJ s2 k2 n2 b2 (i * 1048576)) (hB : (opOf script i).2.2.2.1.length ≤ 1048576) (h1 : ¬ (opOf script i).1 = 1) (h2 : ¬ (opOf script i).1 = 2) (h3 : ¬ (opOf script i).1 = 3) (g4 : (opOf script i).1 = 4) (hw : lethelaw02_rest (opOf script i).2.1 3 1) (ht : lethelaw02_rest (opOf script i).2.2.1 3 0) :
   ∃ s', lethelaw02_ShaExact_l0 script true (i, s0, k0, n0, s1, k1, n1, s2, k2, n2, b0, b1, b2) (.inl s') ∧ SI s' ∧ 60 - s'.1 < 60 - i := by
 have hm : i * 1048576 ≤ 62914560 := by omega
 have hB2 : (opOf script i).2.2.2.1.length ≤ 2097152 := by omega
 have l0 := j0.2.2
 have l1 := j1.2.2
 have l2 := j2.2.2
 obtain ⟨s', k', n', hwr, hJ'⟩ := j1.write (Y := (opOf script i).2.2.2.1) hB hm (Nat.le_of_eq (Nat.succ_mul i 1048576).symm)
 exact ⟨(i + 1, s0, k0, n0, s', k', n', s2, k2, n2, b0, (([] ++ b1) ++ (opOf script i).2.2.2.1), b2), step_in hi h60 ⟨hi, true, s0, k0, n0, s', k', n', s2, k2, n2, b0, (([] ++ b1) ++ (opOf script i).2.2.2.1), b2, ineg h1 (ineg h2 ⟨true, s0, k0, n0, s', k', n', s2, k2, n2, b0, (([] ++ b1) ++ (opOf script i).2.2.2.1), b2, ⟨1, hw, 0, ht, false, 1, 0, s0, k0, n0, s1, k1, n1, s2, k2, n2, b0, b1, b2, ineg h3 (ipos g4 (⟨_, room_ok hB2, ineg (by decide) (ipos rfl (⟨⟨Nat.zero_le _, room_le _⟩, s', k', n', by rw [room_seg]; exact hwr, by omega, by (rw [List.nil_append]; exact add_small j1.2.2 hB hm), true, kept_ok hB2, wipe2 _ (room_len hB2), rfl, rfl, rfl, rfl, rfl, rfl, rfl, rfl, rfl, rfl, rfl, rfl, rfl, rfl⟩))⟩)), fun h => absurd h (by decide)⟩, rfl, rfl, rfl, rfl, rfl, rfl, rfl, rfl, rfl, rfl, rfl, rfl, rfl⟩), ipos rfl rfl⟩, ⟨by omega, (j0.up (by omega)), (hJ'), (j2.up (by omega))⟩, by show 60 - (i + 1) < 60 - i; omega⟩
theorem st_4_1_1 {script : List SOp} {i : Nat} {s0 s1 s2 : Nat → BitVec 32} {k0 k1 k2 : Nat → BitVec 8} {n0 n1 n2 : Int} {b0 b1 b2 : List Byte} (hi : i < script.length) (h60 : i < 60) (j0 : HJ s0 k0 n0 b0 (i * 1048576)) (j1 : HJ s1 k1 n1 b1 (i * 1048576)) (j2 : HJ s2 k2 n2 b2 (i * 1048576)) (hB : (opOf script i).2.2.2.1.length ≤ 1048576) (h1 : ¬ (opOf script i).1 = 1) (h2 : ¬ (opOf script i).1 = 2) (h3 : ¬ (opOf script i).1 = 3) (g4 : (opOf script i).1 = 4) (hw : lethelaw02_rest (opOf script i).2.1 3 1) (ht : lethelaw02_rest (opOf script i).2.2.1 3 1) :
   ∃ s', lethelaw02_ShaExact_l0 script true (i, s0, k0, n0, s1, k1, n1, s2, k2, n2, b0, b1, b2) (.inl s') ∧ SI s' ∧ 60 - s'.1 < 60 - i := by
 have hm : i * 1048576 ≤ 62914560 := by omega
 have hB2 : (opOf script i).2.2.2.1.length ≤ 2097152 := by omega
 have l0 := j0.2.2
 have l1 := j1.2.2
 have l2 := j2.2.2
 obtain ⟨s', k', n', hwr, hJ'⟩ := j1.write (Y := (opOf script i).2.2.2.1) hB hm (Nat.le_of_eq (Nat.succ_mul i 1048576).symm)
 exact ⟨(i + 1, s0, k0, n0, s', k', n', s2, k2, n2, b0, (([] ++ b1) ++ (opOf script i).2.2.2.1), b2), step_in hi h60 ⟨hi, true, s0, k0, n0, s', k', n', s2, k2, n2, b0, (([] ++ b1) ++ (opOf script i).2.2.2.1), b2, ineg h1 (ineg h2 ⟨true, s0, k0, n0, s', k', n', s2, k2, n2, b0, (([] ++ b1) ++ (opOf script i).2.2.2.1), b2, ⟨1, hw, 1, ht, false, 1, 1, s0, k0, n0, s1, k1, n1, s2, k2, n2, b0, b1, b2, ineg h3 (ipos g4 (⟨_, room_ok hB2, ineg (by decide) (ipos rfl (⟨⟨Nat.zero_le _, room_le _⟩, s', k', n', by rw [room_seg]; exact hwr, by omega, by (rw [List.nil_append]; exact add_small j1.2.2 hB hm), true, kept_ok hB2, wipe2 _ (room_len hB2), rfl, rfl, rfl, rfl, rfl, rfl, rfl, rfl, rfl, rfl, rfl, rfl, rfl, rfl⟩))⟩)), fun h => absurd h (by decide)⟩, rfl, rfl, rfl, rfl, rfl, rfl, rfl, rfl, rfl, rfl, rfl, rfl, rfl⟩), ipos rfl rfl⟩, ⟨by omega, (j0.up (by omega)), (hJ'), (j2.up (by omega))⟩, by show 60 - (i + 1) < 60 - i; omega⟩
theorem st_4_1_2 {script : List SOp} {i : Nat} {s0 s1 s2 : Nat → BitVec 32} {k0 k1 k2 : Nat → BitVec 8} {n0 n1 n2 : Int} {b0 b1 b2 : List Byte} (hi : i < script.length) (h60 : i < 60) (j0 : HJ s0 k0 n0 b0 (i * 1048576)) (j1 : HJ s1 k1 n1 b1 (i * 1048576)) (j2 : HJ s2 k2 n2 b2 (i * 1048576)) (hB : (opOf script i).2.2.2.1.length ≤ 1048576) (h1 : ¬ (opOf script i).1 = 1) (h2 : ¬ (opOf script i).1 = 2) (h3 : ¬ (opOf script i).1 = 3) (g4 : (opOf script i).1 = 4) (hw : lethelaw02_rest (opOf script i).2.1 3 1) (ht : lethelaw02_rest (opOf script i).2.2.1 3 2) :
   ∃ s', lethelaw02_ShaExact_l0 script true (i, s0, k0, n0, s1, k1, n1, s2, k2, n2, b0, b1, b2) (.inl s') ∧ SI s' ∧ 60 - s'.1 < 60 - i := by
 have hm : i * 1048576 ≤ 62914560 := by omega
 have hB2 : (opOf script i).2.2.2.1.length ≤ 2097152 := by omega
 have l0 := j0.2.2
 have l1 := j1.2.2
 have l2 := j2.2.2
 obtain ⟨s', k', n', hwr, hJ'⟩ := j1.write (Y := (opOf script i).2.2.2.1) hB hm (Nat.le_of_eq (Nat.succ_mul i 1048576).symm)
 exact ⟨(i + 1, s0, k0, n0, s', k', n', s2, k2, n2, b0, (([] ++ b1) ++ (opOf script i).2.2.2.1), b2), step_in hi h60 ⟨hi, true, s0, k0, n0, s', k', n', s2, k2, n2, b0, (([] ++ b1) ++ (opOf script i).2.2.2.1), b2, ineg h1 (ineg h2 ⟨true, s0, k0, n0, s', k', n', s2, k2, n2, b0, (([] ++ b1) ++ (opOf script i).2.2.2.1), b2, ⟨1, hw, 2, ht, false, 1, 2, s0, k0, n0, s1, k1, n1, s2, k2, n2, b0, b1, b2, ineg h3 (ipos g4 (⟨_, room_ok hB2, ineg (by decide) (ipos rfl (⟨⟨Nat.zero_le _, room_le _⟩, s', k', n', by rw [room_seg]; exact hwr, by omega, by (rw [List.nil_append]; exact add_small j1.2.2 hB hm), true, kept_ok hB2, wipe2 _ (room_len hB2), rfl, rfl, rfl, rfl, rfl, rfl, rfl, rfl, rfl, rfl, rfl, rfl, rfl, rfl⟩))⟩)), fun h => absurd h (by decide)⟩, rfl, rfl, rfl, rfl, rfl, rfl, rfl, rfl, rfl, rfl, rfl, rfl, rfl⟩), ipos rfl rfl⟩, ⟨by omega, (j0.up (by omega)), (hJ'), (j2.up (by omega))⟩, by show 60 - (i + 1) < 60 - i; omega⟩
theorem st_4_2_0 {script : List SOp} {i : Nat} {s0 s1 s2 : Nat → BitVec 32} {k0 k1 k2 : Nat → BitVec 8} {n0 n1 n2 : Int} {b0 b1 b2 : List Byte} (hi : i < script.length) (h60 : i < 60) (j0 : HJ s0 k0 n0 b0 (i * 1048576)) (j1 : HJ s1 k1 n1 b1 (i * 1048576)) (j2 : HJ s2 k2 n2 b2 (i * 1048576)) (hB : (opOf script i).2.2.2.1.length ≤ 1048576) (h1 : ¬ (opOf script i).1 = 1) (h2 : ¬ (opOf script i).1 = 2) (h3 : ¬ (opOf script i).1 = 3) (g4 : (opOf script i).1 = 4) (hw : lethelaw02_rest (opOf script i).2.1 3 2) (ht : lethelaw02_rest (opOf script i).2.2.1 3 0) :
   ∃ s', lethelaw02_ShaExact_l0 script true (i, s0, k0, n0, s1, k1, n1, s2, k2, n2, b0, b1, b2) (.inl s') ∧ SI s' ∧ 60 - s'.1 < 60 - i := by
 have hm : i * 1048576 ≤ 62914560 := by omega
 have hB2 : (opOf script i).2.2.2.1.length ≤ 2097152 := by omega
 have l0 := j0.2.2
 have l1 := j1.2.2
 have l2 := j2.2.2
 obtain ⟨s', k', n', hwr, hJ'⟩ := j2.write (Y := (opOf script i).2.2.2.1) hB hm (Nat.le_of_eq (Nat.succ_mul i 1048576).symm)
 exact ⟨(i + 1, s0, k0, n0, s1, k1, n1, s', k', n', b0, b1, (([] ++ b2) ++ (opOf script i).2.2.2.1)), step_in hi h60 ⟨hi, true, s0, k0, n0, s1, k1, n1, s', k', n', b0, b1, (([] ++ b2) ++ (opOf script i).2.2.2.1), ineg h1 (ineg h2 ⟨true, s0, k0, n0, s1, k1, n1, s', k', n', b0, b1, (([] ++ b2) ++ (opOf script i).2.2.2.1), ⟨2, hw, 0, ht, false, 2, 0, s0, k0, n0, s1, k1, n1, s2, k2, n2, b0, b1, b2, ineg h3 (ipos g4 (⟨_, room_ok hB2, ineg (by decide) (ineg (by decide) ⟨rfl, ⟨⟨Nat.zero_le _, room_le _⟩, s', k', n', by rw [room_seg]; exact hwr, by omega, by (rw [List.nil_append]; exact add_small j2.2.2 hB hm), true, kept_ok hB2, wipe3 _ (room_len hB2), rfl, rfl, rfl, rfl, rfl, rfl, rfl, rfl, rfl, rfl, rfl, rfl, rfl, rfl⟩⟩)⟩)), fun h => absurd h (by decide)⟩, rfl, rfl, rfl, rfl, rfl, rfl, rfl, rfl, rfl, rfl, rfl, rfl, rfl⟩), ipos rfl rfl⟩, ⟨by omega, (j0.up (by omega)), (j1.up (by omega)), (hJ')⟩, by show 60 - (i + 1) < 60 - i; omega⟩
theorem st_4_2_1 {script : List SOp} {i : Nat} {s0 s1 s2 : Nat → BitVec 32} {k0 k1 k2 : Nat → BitVec 8} {n0 n1 n2 : Int} {b0 b1 b2 : List Byte} (hi : i < script.length) (h60 : i < 60) (j0 : HJ s0 k0 n0 b0 (i * 1048576)) (j1 : HJ s1 k1 n1 b1 (i * 1048576)) (j2 : HJ s2 k2 n2 b2 (i * 1048576)) (hB : (opOf script i).2.2.2.1.length ≤ 1048576) (h1 : ¬ (opOf script i).1 = 1) (h2 : ¬ (opOf script i).1 = 2) (h3 : ¬ (opOf script i).1 = 3) (g4 : (opOf script i).1 = 4) (hw : lethelaw02_rest (opOf script i).2.1 3 2) (ht : lethelaw02_rest (opOf script i).2.2.1 3 1) :
   ∃ s', lethelaw02_ShaExact_l0 script true (i, s0, k0, n0, s1, k1, n1, s2, k2, n2, b0, b1, b2) (.inl s') ∧ SI s' ∧ 60 - s'.1 < 60 - i := by
 have hm : i * 1048576 ≤ 62914560 := by omega
 have hB2 : (opOf script i).2.2.2.1.length ≤ 2097152 := by omega
 have l0 := j0.2.2
 have l1 := j1.2.2
 have l2 := j2.2.2
 obtain ⟨s', k', n', hwr, hJ'⟩ := j2.write (Y := (opOf script i).2.2.2.1) hB hm (Nat.le_of_eq (Nat.succ_mul i 1048576).symm)
 exact ⟨(i + 1, s0, k0, n0, s1, k1, n1, s', k', n', b0, b1, (([] ++ b2) ++ (opOf script i).2.2.2.1)), step_in hi h60 ⟨hi, true, s0, k0, n0, s1, k1, n1, s', k', n', b0, b1, (([] ++ b2) ++ (opOf script i).2.2.2.1), ineg h1 (ineg h2 ⟨true, s0, k0, n0, s1, k1, n1, s', k', n', b0, b1, (([] ++ b2) ++ (opOf script i).2.2.2.1), ⟨2, hw, 1, ht, false, 2, 1, s0, k0, n0, s1, k1, n1, s2, k2, n2, b0, b1, b2, ineg h3 (ipos g4 (⟨_, room_ok hB2, ineg (by decide) (ineg (by decide) ⟨rfl, ⟨⟨Nat.zero_le _, room_le _⟩, s', k', n', by rw [room_seg]; exact hwr, by omega, by (rw [List.nil_append]; exact add_small j2.2.2 hB hm), true, kept_ok hB2, wipe3 _ (room_len hB2), rfl, rfl, rfl, rfl, rfl, rfl, rfl, rfl, rfl, rfl, rfl, rfl, rfl, rfl⟩⟩)⟩)), fun h => absurd h (by decide)⟩, rfl, rfl, rfl, rfl, rfl, rfl, rfl, rfl, rfl, rfl, rfl, rfl, rfl⟩), ipos rfl rfl⟩, ⟨by omega, (j0.up (by omega)), (j1.up (by omega)), (hJ')⟩, by show 60 - (i + 1) < 60 - i; omega⟩
theorem st_4_2_2 {script : List SOp} {i : Nat} {s0 s1 s2 : Nat → BitVec 32} {k0 k1 k2 : Nat → BitVec 8} {n0 n1 n2 : Int} {b0 b1 b2 : List Byte} (hi : i < script.length) (h60 : i < 60) (j0 : HJ s0 k0 n0 b0 (i * 1048576)) (j1 : HJ s1 k1 n1 b1 (i * 1048576)) (j2 : HJ s2 k2 n2 b2 (i * 1048576)) (hB : (opOf script i).2.2.2.1.length ≤ 1048576) (h1 : ¬ (opOf script i).1 = 1) (h2 : ¬ (opOf script i).1 = 2) (h3 : ¬ (opOf script i).1 = 3) (g4 : (opOf script i).1 = 4) (hw : lethelaw02_rest (opOf script i).2.1 3 2) (ht : lethelaw02_rest (opOf script i).2.2.1 3 2) :
   ∃ s', lethelaw02_ShaExact_l0 script true (i, s0, k0, n0, s1, k1, n1, s2, k2, n2, b0, b1, b2) (.inl s') ∧ SI s' ∧ 60 - s'.1 < 60 - i := by
 have hm : i * 1048576 ≤ 62914560 := by omega
 have hB2 : (opOf script i).2.2.2.1.length ≤ 2097152 := by omega
 have l0 := j0.2.2
 have l1 := j1.2.2
 have l2 := j2.2.2
 obtain ⟨s', k', n', hwr, hJ'⟩ := j2.write (Y := (opOf script i).2.2.2.1) hB hm (Nat.le_of_eq (Nat.succ_mul i 1048576).symm)
 exact ⟨(i + 1, s0, k0, n0, s1, k1, n1, s', k', n', b0, b1, (([] ++ b2) ++ (opOf script i).2.2.2.1)), step_in hi h60 ⟨hi, true, s0, k0, n0, s1, k1, n1, s', k', n', b0, b1, (([] ++ b2) ++ (opOf script i).2.2.2.1), ineg h1 (ineg h2 ⟨true, s0, k0, n0, s1, k1, n1, s', k', n', b0, b1, (([] ++ b2) ++ (opOf script i).2.2.2.1), ⟨2, hw, 2, ht, false, 2, 2, s0, k0, n0, s1, k1, n1, s2, k2, n2, b0, b1, b2, ineg h3 (ipos g4 (⟨_, room_ok hB2, ineg (by decide) (ineg (by decide) ⟨rfl, ⟨⟨Nat.zero_le _, room_le _⟩, s', k', n', by rw [room_seg]; exact hwr, by omega, by (rw [List.nil_append]; exact add_small j2.2.2 hB hm), true, kept_ok hB2, wipe3 _ (room_len hB2), rfl, rfl, rfl, rfl, rfl, rfl, rfl, rfl, rfl, rfl, rfl, rfl, rfl, rfl⟩⟩)⟩)), fun h => absurd h (by decide)⟩, rfl, rfl, rfl, rfl, rfl, rfl, rfl, rfl, rfl, rfl, rfl, rfl, rfl⟩), ipos rfl rfl⟩, ⟨by omega, (j0.up (by omega)), (j1.up (by omega)), (hJ')⟩, by show 60 - (i + 1) < 60 - i; omega⟩
theorem st_5_0_0 {script : List SOp} {i : Nat} {s0 s1 s2 : Nat → BitVec 32} {k0 k1 k2 : Nat → BitVec 8} {n0 n1 n2 : Int} {b0 b1 b2 : List Byte} (hi : i < script.length) (h60 : i < 60) (j0 : HJ s0 k0 n0 b0 (i * 1048576)) (j1 : HJ s1 k1 n1 b1 (i * 1048576)) (j2 : HJ s2 k2 n2 b2 (i * 1048576)) (hB : (opOf script i).2.2.2.1.length ≤ 1048576) (h1 : ¬ (opOf script i).1 = 1) (h2 : ¬ (opOf script i).1 = 2) (h3 : ¬ (opOf script i).1 = 3) (h4 : ¬ (opOf script i).1 = 4) (g5 : (opOf script i).1 = 5) (hw : lethelaw02_rest (opOf script i).2.1 3 0) (ht : lethelaw02_rest (opOf script i).2.2.1 3 0) :
   ∃ s', lethelaw02_ShaExact_l0 script true (i, s0, k0, n0, s1, k1, n1, s2, k2, n2, b0, b1, b2) (.inl s') ∧ SI s' ∧ 60 - s'.1 < 60 - i := by
 have hm : i * 1048576 ≤ 62914560 := by omega
 have hB2 : (opOf script i).2.2.2.1.length ≤ 2097152 := by omega
 have l0 := j0.2.2
 have l1 := j1.2.2
 have l2 := j2.2.2
 exact ⟨(i + 1, s0, k0, n0, s1, k1, n1, s2, k2, n2, b0, b1, b2), step_in hi h60 ⟨hi, true, s0, k0, n0, s1, k1, n1, s2, k2, n2, b0, b1, b2, ineg h1 (ineg h2 ⟨true, s0, k0, n0, s1, k1, n1, s2, k2, n2, b0, b1, b2, ⟨0, hw, 0, ht, false, 0, 0, s0, k0, n0, s1, k1, n1, s2, k2, n2, b0, b1, b2, ineg h3 (ineg h4 (ipos g5 (ipos rfl (j0.ask (fun d => ⟨_, rfl, ipos j0.2.1 ⟨_, d.1, _, d.2, rfl, (eqB_self _ _).symm, rfl, rfl, rfl, rfl, rfl, rfl, rfl, rfl, rfl, rfl, rfl, rfl⟩⟩) hm)))), fun h => absurd h (by decide)⟩, rfl, rfl, rfl, rfl, rfl, rfl, rfl, rfl, rfl, rfl, rfl, rfl, rfl⟩), ipos rfl rfl⟩, ⟨by omega, (j0.up (by omega)), (j1.up (by omega)), (j2.up (by omega))⟩, by show 60 - (i + 1) < 60 - i; omega⟩
theorem st_5_0_1 {script : List SOp} {i : Nat} {s0 s1 s2 : Nat → BitVec 32} {k0 k1 k2 : Nat → BitVec 8} {n0 n1 n2 : Int} {b0 b1 b2 : List Byte} (hi : i < script.length) (h60 : i < 60) (j0 : HJ s0 k0 n0 b0 (i * 1048576)) (j1 : HJ s1 k1 n1 b1 (i * 1048576)) (j2 : HJ s2 k2 n2 b2 (i * 1048576)) (hB : (opOf script i).2.2.2.1.length ≤ 1048576) (h1 : ¬ (opOf script i).1 = 1) (h2 : ¬ (opOf script i).1 = 2) (h3 : ¬ (opOf script i).1 = 3) (h4 : ¬ (opOf script i).1 = 4) (g5 : (opOf script i).1 = 5) (hw : lethelaw02_rest (opOf script i).2.1 3 0) (ht : lethelaw02_rest (opOf script i).2.2.1 3 1) :
   ∃ s', lethelaw02_ShaExact_l0 script true (i, s0, k0, n0, s1, k1, n1, s2, k2, n2, b0, b1, b2) (.inl s') ∧ SI s' ∧ 60 - s'.1 < 60 - i := by
 have hm : i * 1048576 ≤ 62914560 := by omega
 have hB2 : (opOf script i).2.2.2.1.length ≤ 2097152 := by omega
 have l0 := j0.2.2
 have l1 := j1.2.2
 have l2 := j2.2.2
 exact ⟨(i + 1, s0, k0, n0, s1, k1, n1, s2, k2, n2, b0, b1, b2), step_in hi h60 ⟨hi, true, s0, k0, n0, s1, k1, n1, s2, k2, n2, b0, b1, b2, ineg h1 (ineg h2 ⟨true, s0, k0, n0, s1, k1, n1, s2, k2, n2, b0, b1, b2, ⟨0, hw, 1, ht, false, 0, 1, s0, k0, n0, s1, k1, n1, s2, k2, n2, b0, b1, b2, ineg h3 (ineg h4 (ipos g5 (ipos rfl (j0.ask (fun d => ⟨_, rfl, ipos j0.2.1 ⟨_, d.1, _, d.2, rfl, (eqB_self _ _).symm, rfl, rfl, rfl, rfl, rfl, rfl, rfl, rfl, rfl, rfl, rfl, rfl⟩⟩) hm)))), fun h => absurd h (by decide)⟩, rfl, rfl, rfl, rfl, rfl, rfl, rfl, rfl, rfl, rfl, rfl, rfl, rfl⟩), ipos rfl rfl⟩, ⟨by omega, (j0.up (by omega)), (j1.up (by omega)), (j2.up (by omega))⟩, by show 60 - (i + 1) < 60 - i; omega⟩
theorem st_5_0_2 {script : List SOp} {i : Nat} {s0 s1 s2 : Nat → BitVec 32} {k0 k1 k2 : Nat → BitVec 8} {n0 n1 n2 : Int} {b0 b1 b2 : List Byte} (hi : i < script.length) (h60 : i < 60) (j0 : HJ s0 k0 n0 b0 (i * 1048576)) (j1 : HJ s1 k1 n1 b1 (i * 1048576)) (j2 : HJ s2 k2 n2 b2 (i * 1048576)) (hB : (opOf script i).2.2.2.1.length ≤ 1048576) (h1 : ¬ (opOf script i).1 = 1) (h2 : ¬ (opOf script i).1 = 2) (h3 : ¬ (opOf script i).1 = 3) (h4 : ¬ (opOf script i).1 = 4) (g5 : (opOf script i).1 = 5) (hw : lethelaw02_rest (opOf script i).2.1 3 0) (ht : lethelaw02_rest (opOf script i).2.2.1 3 2) :
   ∃ s', lethelaw02_ShaExact_l0 script true (i, s0, k0, n0, s1, k1, n1, s2, k2, n2, b0, b1, b2) (.inl s') ∧ SI s' ∧ 60 - s'.1 < 60 - i := by
 have hm : i * 1048576 ≤ 62914560 := by omega
 have hB2 : (opOf script i).2.2.2.1.length ≤ 2097152 := by omega
 have l0 := j0.2.2
 have l1 := j1.2.2
 have l2 := j2.2.2
 exact ⟨(i + 1, s0, k0, n0, s1, k1, n1, s2, k2, n2, b0, b1, b2), step_in hi h60 ⟨hi, true, s0, k0, n0, s1, k1, n1, s2, k2, n2, b0, b1, b2, ineg h1 (ineg h2 ⟨true, s0, k0, n0, s1, k1, n1, s2, k2, n2, b0, b1, b2, ⟨0, hw, 2, ht, false, 0, 2, s0, k0, n0, s1, k1, n1, s2, k2, n2, b0, b1, b2, ineg h3 (ineg h4 (ipos g5 (ipos rfl (j0.ask (fun d => ⟨_, rfl, ipos j0.2.1 ⟨_, d.1, _, d.2, rfl, (eqB_self _ _).symm, rfl, rfl, rfl, rfl, rfl, rfl, rfl, rfl, rfl, rfl, rfl, rfl⟩⟩) hm)))), fun h => absurd h (by decide)⟩, rfl, rfl, rfl, rfl, rfl, rfl, rfl, rfl, rfl, rfl, rfl, rfl, rfl⟩), ipos rfl rfl⟩, ⟨by omega, (j0.up (by omega)), (j1.up (by omega)), (j2.up (by omega))⟩, by show 60 - (i + 1) < 60 - i; omega⟩
theorem st_5_1_0 {script : List SOp} {i : Nat} {s0 s1 s2 : Nat → BitVec 32} {k0 k1 k2 : Nat → BitVec 8} {n0 n1 n2 : Int} {b0 b1 b2 : List Byte} (hi : i < script.length) (h60 : i < 60) (j0 : HJ s0 k0 n0 b0 (i * 1048576)) (j1 : HJ s1 k1 n1 b1 (i * 1048576)) (j2 : HJ s2 k2 n2 b2 (i * 1048576)) (hB : (opOf script i).2.2.2.1.length ≤ 1048576) (h1 : ¬ (opOf script i).1 = 1) (h2 : ¬ (opOf script i).1 = 2) (h3 : ¬ (opOf script i).1 = 3) (h4 : ¬ (opOf script i).1 = 4) (g5 : (opOf script i).1 = 5) (hw : lethelaw02_rest (opOf script i).2.1 3 1) (ht : lethelaw02_rest (opOf script i).2.2.1 3 0) :
   ∃ s', lethelaw02_ShaExact_l0 script true (i, s0, k0, n0, s1, k1, n1, s2, k2, n2, b0, b1, b2) (.inl s') ∧ SI s' ∧ 60 - s'.1 < 60 - i := by
 have hm : i * 1048576 ≤ 62914560 := by omega
 have hB2 : (opOf script i).2.2.2.1.length ≤ 2097152 := by omega
 have l0 := j0.2.2
 have l1 := j1.2.2
 have l2 := j2.2.2
 exact ⟨(i + 1, s0, k0, n0, s1, k1, n1, s2, k2, n2, b0, b1, b2), step_in hi h60 ⟨hi, true, s0, k0, n0, s1, k1, n1, s2, k2, n2, b0, b1, b2, ineg h1 (ineg h2 ⟨true, s0, k0, n0, s1, k1, n1, s2, k2, n2, b0, b1, b2, ⟨1, hw, 0, ht, false, 1, 0, s0, k0, n0, s1, k1, n1, s2, k2, n2, b0, b1, b2, ineg h3 (ineg h4 (ipos g5 (ineg (by decide) (ipos rfl (j1.ask (fun d => ⟨_, rfl, ipos j1.2.1 ⟨_, d.1, _, d.2, rfl, (eqB_self _ _).symm, rfl, rfl, rfl, rfl, rfl, rfl, rfl, rfl, rfl, rfl, rfl, rfl⟩⟩) hm))))), fun h => absurd h (by decide)⟩, rfl, rfl, rfl, rfl, rfl, rfl, rfl, rfl, rfl, rfl, rfl, rfl, rfl⟩), ipos rfl rfl⟩, ⟨by omega, (j0.up (by omega)), (j1.up (by omega)), (j2.up (by omega))⟩, by show 60 - (i + 1) < 60 - i; omega⟩
theorem st_5_1_1 {script : List SOp} {i : Nat} {s0 s1 s2 : Nat → BitVec 32} {k0 k1 k2 : Nat → BitVec 8} {n0 n1 n2 : Int} {b0 b1 b2 : List Byte} (hi : i < script.length) (h60 : i < 60) (j0 : HJ s0 k0 n0 b0 (i * 1048576)) (j1 : HJ s1 k1 n1 b1 (i * 1048576)) (j2 : HJ s2 k2 n2 b2 (i * 1048576)) (hB : (opOf script i).2.2.2.1.length ≤ 1048576) (h1 : ¬ (opOf script i).1 = 1) (h2 : ¬ (opOf script i).1 = 2) (h3 : ¬ (opOf script i).1 = 3) (h4 : ¬ (opOf script i).1 = 4) (g5 : (opOf script i).1 = 5) (hw : lethelaw02_rest (opOf script i).2.1 3 1) (ht : lethelaw02_rest (opOf script i).2.2.1 3 1) :
   ∃ s', lethelaw02_ShaExact_l0 script true (i, s0, k0, n0, s1, k1, n1, s2, k2, n2, b0, b1, b2) (.inl s') ∧ SI s' ∧ 60 - s'.1 < 60 - i := by
 have hm : i * 1048576 ≤ 62914560 := by omega
 have hB2 : (opOf script i).2.2.2.1.length ≤ 2097152 := by omega
 have l0 := j0.2.2
 have l1 := j1.2.2
 have l2 := j2.2.2
 exact ⟨(i + 1, s0, k0, n0, s1, k1, n1, s2, k2, n2, b0, b1, b2), step_in hi h60 ⟨hi, true, s0, k0, n0, s1, k1, n1, s2, k2, n2, b0, b1, b2, ineg h1 (ineg h2 ⟨true, s0, k0, n0, s1, k1, n1, s2, k2, n2, b0, b1, b2, ⟨1, hw, 1, ht, false, 1, 1, s0, k0, n0, s1, k1, n1, s2, k2, n2, b0, b1, b2, ineg h3 (ineg h4 (ipos g5 (ineg (by decide) (ipos rfl (j1.ask (fun d => ⟨_, rfl, ipos j1.2.1 ⟨_, d.1, _, d.2, rfl, (eqB_self _ _).symm, rfl, rfl, rfl, rfl, rfl, rfl, rfl, rfl, rfl, rfl, rfl, rfl⟩⟩) hm))))), fun h => absurd h (by decide)⟩, rfl, rfl, rfl, rfl, rfl, rfl, rfl, rfl, rfl, rfl, rfl, rfl, rfl⟩), ipos rfl rfl⟩, ⟨by omega, (j0.up (by omega)), (j1.up (by omega)), (j2.up (by omega))⟩, by show 60 - (i + 1) < 60 - i; omega⟩
theorem st_5_1_2 {script : List SOp} {i : Nat} {s0 s1 s2 : Nat → BitVec 32} {k0 k1 k2 : Nat → BitVec 8} {n0 n1 n2 : Int} {b0 b1 b2 : List Byte} (hi : i < script.length) (h60 : i < 60) (j0 : HJ s0 k0 n0 b0 (i * 1048576)) (j1 : HJ s1 k1 n1 b1 (i * 1048576)) (j2 : HJ s2 k2 n2 b2 (i * 1048576)) (hB : (opOf script i).2.2.2.1.length ≤ 1048576) (h1 : ¬ (opOf script i).1 = 1) (h2 : ¬ (opOf script i).1 = 2) (h3 : ¬ (opOf script i).1 = 3) (h4 : ¬ (opOf script i).1 = 4) (g5 : (opOf script i).1 = 5) (hw : lethelaw02_rest (opOf script i).2.1 3 1) (ht : lethelaw02_rest (opOf script i).2.2.1 3 2) :
   ∃ s', lethelaw02_ShaExact_l0 script true (i, s0, k0, n0, s1, k1, n1, s2, k2, n2, b0, b1, b2) (.inl s') ∧ SI s' ∧ 60 - s'.1 < 60 - i := by
 have hm : i * 1048576 ≤ 62914560 := by omega
 have hB2 : (opOf script i).2.2.2.1.length ≤ 2097152 := by omega
 have l0 := j0.2.2
 have l1 := j1.2.2
 have l2 := j2.2.2
 exact ⟨(i + 1, s0, k0, n0, s1, k1, n1, s2, k2, n2, b0, b1, b2), step_in hi h60 ⟨hi, true, s0, k0, n0, s1, k1, n1, s2, k2, n2, b0, b1, b2, ineg h1 (ineg h2 ⟨true, s0, k0, n0, s1, k1, n1, s2, k2, n2, b0, b1, b2, ⟨1, hw, 2, ht, false, 1, 2, s0, k0, n0, s1, k1, n1, s2, k2, n2, b0, b1, b2, ineg h3 (ineg h4 (ipos g5 (ineg (by decide) (ipos rfl (j1.ask (fun d => ⟨_, rfl, ipos j1.2.1 ⟨_, d.1, _, d.2, rfl, (eqB_self _ _).symm, rfl, rfl, rfl, rfl, rfl, rfl, rfl, rfl, rfl, rfl, rfl, rfl⟩⟩) hm))))), fun h => absurd h (by decide)⟩, rfl, rfl, rfl, rfl, rfl, rfl, rfl, rfl, rfl, rfl, rfl, rfl, rfl⟩), ipos rfl rfl⟩, ⟨by omega, (j0.up (by omega)), (j1.up (by omega)), (j2.up (by omega))⟩, by show 60 - (i + 1) < 60 - i; omega⟩
theorem st_5_2_0 {script : List SOp} {i : Nat} {s0 s1 s2 : Nat → BitVec 32} {k0 k1 k2 : Nat → BitVec 8} {n0 n1 n2 : Int} {b0 b1 b2 : List Byte} (hi : i < script.length) (h60 : i < 60) (j0 : HJ s0 k0 n0 b0 (i * 1048576)) (j1 : HJ s1 k1 n1 b1 (i * 1048576)) (j2 : HJ s2 k2 n2 b2 (i * 1048576)) (hB : (opOf script i).2.2.2.1.length ≤ 1048576) (h1 : ¬ (opOf script i).1 = 1) (h2 : ¬ (opOf script i).1 = 2) (h3 : ¬ (opOf script i).1 = 3) (h4 : ¬ (opOf script i).1 = 4) (g5 : (opOf script i).1 = 5) (hw : lethelaw02_rest (opOf script i).2.1 3 2) (ht : lethelaw02_rest (opOf script i).2.2.1 3 0) :
   ∃ s', lethelaw02_ShaExact_l0 script true (i, s0, k0, n0, s1, k1, n1, s2, k2, n2, b0, b1, b2) (.inl s') ∧ SI s' ∧ 60 - s'.1 < 60 - i := by
 have hm : i * 1048576 ≤ 62914560 := by omega
 have hB2 : (opOf script i).2.2.2.1.length ≤ 2097152 := by omega
 have l0 := j0.2.2
 have l1 := j1.2.2
 have l2 := j2.2.2
 exact ⟨(i + 1, s0, k0, n0, s1, k1, n1, s2, k2, n2, b0, b1, b2), step_in hi h60 ⟨hi, true, s0, k0, n0, s1, k1, n1, s2, k2, n2, b0, b1, b2, ineg h1 (ineg h2 ⟨true, s0, k0, n0, s1, k1, n1, s2, k2, n2, b0, b1, b2, ⟨2, hw, 0, ht, false, 2, 0, s0, k0, n0, s1, k1, n1, s2, k2, n2, b0, b1, b2, ineg h3 (ineg h4 (ipos g5 (ineg (by decide) (ineg (by decide) ⟨rfl, j2.ask (fun d => ⟨_, rfl, ipos j2.2.1 ⟨_, d.1, _, d.2, rfl, (eqB_self _ _).symm, rfl, rfl, rfl, rfl, rfl, rfl, rfl, rfl, rfl, rfl, rfl, rfl⟩⟩) hm⟩)))), fun h => absurd h (by decide)⟩, rfl, rfl, rfl, rfl, rfl, rfl, rfl, rfl, rfl, rfl, rfl, rfl, rfl⟩), ipos rfl rfl⟩, ⟨by omega, (j0.up (by omega)), (j1.up (by omega)), (j2.up (by omega))⟩, by show 60 - (i + 1) < 60 - i; omega⟩
theorem st_5_2_1 {script : List SOp} {i : Nat} {s0 s1 s2 : Nat → BitVec 32} {k0 k1 k2 : Nat → BitVec 8} {n0 n1 n2 : Int} {b0 b1 b2 : List Byte} (hi : i < script.length) (h60 : i < 60) (j0 : HJ s0 k0 n0 b0 (i * 1048576)) (j1 : HJ s1 k1 n1 b1 (i * 1048576)) (j2 : HJ s2 k2 n2 b2 (i * 1048576)) (hB : (opOf script i).2.2.2.1.length ≤ 1048576) (h1 : ¬ (opOf script i).1 = 1) (h2 : ¬ (opOf script i).1 = 2) (h3 : ¬ (opOf script i).1 = 3) (h4 : ¬ (opOf script i).1 = 4) (g5 : (opOf script i).1 = 5) (hw : lethelaw02_rest (opOf script i).2.1 3 2) (ht : lethelaw02_rest (opOf script i).2.2.1 3 1) :
   ∃ s', lethelaw02_ShaExact_l0 script true (i, s0, k0, n0, s1, k1, n1, s2, k2, n2, b0, b1, b2) (.inl s') ∧ SI s' ∧ 60 - s'.1 < 60 - i := by
 have hm : i * 1048576 ≤ 62914560 := by omega
 have hB2 : (opOf script i).2.2.2.1.length ≤ 2097152 := by omega
 have l0 := j0.2.2
 have l1 := j1.2.2
 have l2 := j2.2.2
 exact ⟨(i + 1, s0, k0, n0, s1, k1, n1, s2, k2, n2, b0, b1, b2), step_in hi h60 ⟨hi, true, s0, k0, n0, s1, k1, n1, s2, k2, n2, b0, b1, b2, ineg h1 (ineg h2 ⟨true, s0, k0, n0, s1, k1, n1, s2, k2, n2, b0, b1, b2, ⟨2, hw, 1, ht, false, 2, 1, s0, k0, n0, s1, k1, n1, s2, k2, n2, b0, b1, b2, ineg h3 (ineg h4 (ipos g5 (ineg (by decide) (ineg (by decide) ⟨rfl, j2.ask (fun d => ⟨_, rfl, ipos j2.2.1 ⟨_, d.1, _, d.2, rfl, (eqB_self _ _).symm, rfl, rfl, rfl, rfl, rfl, rfl, rfl, rfl, rfl, rfl, rfl, rfl⟩⟩) hm⟩)))), fun h => absurd h (by decide)⟩, rfl, rfl, rfl, rfl, rfl, rfl, rfl, rfl, rfl, rfl, rfl, rfl, rfl⟩), ipos rfl rfl⟩, ⟨by omega, (j0.up (by omega)), (j1.up (by omega)), (j2.up (by omega))⟩, by show 60 - (i + 1) < 60 - i; omega⟩
theorem st_5_2_2 {script : List SOp} {i : Nat} {s0 s1 s2 : Nat → BitVec 32} {k0 k1 k2 : Nat → BitVec 8} {n0 n1 n2 : Int} {b0 b1 b2 : List Byte} (hi : i < script.length) (h60 : i < 60) (j0 : HJ s0 k0 n0 b0 (i * 1048576)) (j1 : HJ s1 k1 n1 b1 (i * 1048576)) (j2 : HJ s2 k2 n2 b2 (i * 1048576)) (hB : (opOf script i).2.2.2.1.length ≤ 1048576) (h1 : ¬ (opOf script i).1 = 1) (h2 : ¬ (opOf script i).1 = 2) (h3 : ¬ (opOf script i).1 = 3) (h4 : ¬ (opOf script i).1 = 4) (g5 : (opOf script i).1 = 5) (hw : lethelaw02_rest (opOf script i).2.1 3 2) (ht : lethelaw02_rest (opOf script i).2.2.1 3 2) :
   ∃ s', lethelaw02_ShaExact_l0 script true (i, s0, k0, n0, s1, k1, n1, s2, k2, n2, b0, b1, b2) (.inl s') ∧ SI s' ∧ 60 - s'.1 < 60 - i := by
 have hm : i * 1048576 ≤ 62914560 := by omega
 have hB2 : (opOf script i).2.2.2.1.length ≤ 2097152 := by omega
 have l0 := j0.2.2
 have l1 := j1.2.2
 have l2 := j2.2.2
 exact ⟨(i + 1, s0, k0, n0, s1, k1, n1, s2, k2, n2, b0, b1, b2), step_in hi h60 ⟨hi, true, s0, k0, n0, s1, k1, n1, s2, k2, n2, b0, b1, b2, ineg h1 (ineg h2 ⟨true, s0, k0, n0, s1, k1, n1, s2, k2, n2, b0, b1, b2, ⟨2, hw, 2, ht, false, 2, 2, s0, k0, n0, s1, k1, n1, s2, k2, n2, b0, b1, b2, ineg h3 (ineg h4 (ipos g5 (ineg (by decide) (ineg (by decide) ⟨rfl, j2.ask (fun d => ⟨_, rfl, ipos j2.2.1 ⟨_, d.1, _, d.2, rfl, (eqB_self _ _).symm, rfl, rfl, rfl, rfl, rfl, rfl, rfl, rfl, rfl, rfl, rfl, rfl⟩⟩) hm⟩)))), fun h => absurd h (by decide)⟩, rfl, rfl, rfl, rfl, rfl, rfl, rfl, rfl, rfl, rfl, rfl, rfl, rfl⟩), ipos rfl rfl⟩, ⟨by omega, (j0.up (by omega)), (j1.up (by omega)), (j2.up (by omega))⟩, by show 60 - (i + 1) < 60 - i; omega⟩
theorem st_6_0_0 {script : List SOp} {i : Nat} {s0 s1 s2 : Nat → BitVec 32} {k0 k1 k2 : Nat → BitVec 8} {n0 n1 n2 : Int} {b0 b1 b2 : List Byte} (hi : i < script.length) (h60 : i < 60) (j0 : HJ s0 k0 n0 b0 (i * 1048576)) (j1 : HJ s1 k1 n1 b1 (i * 1048576)) (j2 : HJ s2 k2 n2 b2 (i * 1048576)) (hB : (opOf script i).2.2.2.1.length ≤ 1048576) (h1 : ¬ (opOf script i).1 = 1) (h2 : ¬ (opOf script i).1 = 2) (h3 : ¬ (opOf script i).1 = 3) (h4 : ¬ (opOf script i).1 = 4) (h5 : ¬ (opOf script i).1 = 5) (g6 : (opOf script i).1 = 6) (hw : lethelaw02_rest (opOf script i).2.1 3 0) (ht : lethelaw02_rest (opOf script i).2.2.1 3 0) :
   ∃ s', lethelaw02_ShaExact_l0 script true (i, s0, k0, n0, s1, k1, n1, s2, k2, n2, b0, b1, b2) (.inl s') ∧ SI s' ∧ 60 - s'.1 < 60 - i := by
 have hm : i * 1048576 ≤ 62914560 := by omega
 have hB2 : (opOf script i).2.2.2.1.length ≤ 2097152 := by omega
 have l0 := j0.2.2
 have l1 := j1.2.2
 have l2 := j2.2.2
 exact ⟨(i + 1, s0, k0, n0, s1, k1, n1, s2, k2, n2, ([] ++ b0), b1, b2), step_in hi h60 ⟨hi, true, s0, k0, n0, s1, k1, n1, s2, k2, n2, ([] ++ b0), b1, b2, ineg h1 (ineg h2 ⟨true, s0, k0, n0, s1, k1, n1, s2, k2, n2, ([] ++ b0), b1, b2, ⟨0, hw, 0, ht, true, 0, 0, s0, k0, n0, s1, k1, n1, s2, k2, n2, ([] ++ b0), b1, b2, ineg h3 (ineg h4 (ineg h5 (ipos g6 (ipos rfl (ipos rfl (⟨_, _, _, rfl, by omega, rfl, rfl, rfl, rfl, rfl, rfl, rfl, rfl, rfl, rfl, rfl, rfl, rfl, rfl, rfl⟩)))))), fun _ => ipos rfl (ipos rfl (⟨rfl, rfl, rfl, rfl, rfl, rfl, rfl, rfl, rfl, rfl, rfl, rfl, rfl⟩))⟩, rfl, rfl, rfl, rfl, rfl, rfl, rfl, rfl, rfl, rfl, rfl, rfl, rfl⟩), ipos rfl rfl⟩, ⟨by omega, (j0.copy.up (by omega)), (j1.up (by omega)), (j2.up (by omega))⟩, by show 60 - (i + 1) < 60 - i; omega⟩
theorem st_6_0_1 {script : List SOp} {i : Nat} {s0 s1 s2 : Nat → BitVec 32} {k0 k1 k2 : Nat → BitVec 8} {n0 n1 n2 : Int} {b0 b1 b2 : List Byte} (hi : i < script.length) (h60 : i < 60) (j0 : HJ s0 k0 n0 b0 (i * 1048576)) (j1 : HJ s1 k1 n1 b1 (i * 1048576)) (j2 : HJ s2 k2 n2 b2 (i * 1048576)) (hB : (opOf script i).2.2.2.1.length ≤ 1048576) (h1 : ¬ (opOf script i).1 = 1) (h2 : ¬ (opOf script i).1 = 2) (h3 : ¬ (opOf script i).1 = 3) (h4 : ¬ (opOf script i).1 = 4) (h5 : ¬ (opOf script i).1 = 5) (g6 : (opOf script i).1 = 6) (hw : lethelaw02_rest (opOf script i).2.1 3 0) (ht : lethelaw02_rest (opOf script i).2.2.1 3 1) :
   ∃ s', lethelaw02_ShaExact_l0 script true (i, s0, k0, n0, s1, k1, n1, s2, k2, n2, b0, b1, b2) (.inl s') ∧ SI s' ∧ 60 - s'.1 < 60 - i := by
 have hm : i * 1048576 ≤ 62914560 := by omega
 have hB2 : (opOf script i).2.2.2.1.length ≤ 2097152 := by omega
 have l0 := j0.2.2
 have l1 := j1.2.2
 have l2 := j2.2.2
 exact ⟨(i + 1, s0, k0, n0, s0, k0, n0, s2, k2, n2, b0, ([] ++ b0), b2), step_in hi h60 ⟨hi, true, s0, k0, n0, s0, k0, n0, s2, k2, n2, b0, ([] ++ b0), b2, ineg h1 (ineg h2 ⟨true, s0, k0, n0, s0, k0, n0, s2, k2, n2, b0, ([] ++ b0), b2, ⟨0, hw, 1, ht, true, 0, 1, s0, k0, n0, s0, k0, n0, s2, k2, n2, b0, ([] ++ b0), b2, ineg h3 (ineg h4 (ineg h5 (ipos g6 (ipos rfl (ineg (by decide) (ipos rfl (⟨_, _, _, rfl, by omega, rfl, rfl, rfl, rfl, rfl, rfl, rfl, rfl, rfl, rfl, rfl, rfl, rfl, rfl, rfl⟩))))))), fun _ => ipos rfl (ineg (by decide) (ipos rfl (⟨rfl, rfl, rfl, rfl, rfl, rfl, rfl, rfl, rfl, rfl, rfl, rfl, rfl⟩)))⟩, rfl, rfl, rfl, rfl, rfl, rfl, rfl, rfl, rfl, rfl, rfl, rfl, rfl⟩), ipos rfl rfl⟩, ⟨by omega, (j0.up (by omega)), (j0.copy.up (by omega)), (j2.up (by omega))⟩, by show 60 - (i + 1) < 60 - i; omega⟩
theorem st_6_0_2 {script : List SOp} {i : Nat} {s0 s1 s2 : Nat → BitVec 32} {k0 k1 k2 : Nat → BitVec 8} {n0 n1 n2 : Int} {b0 b1 b2 : List Byte} (hi : i < script.length) (h60 : i < 60) (j0 : HJ s0 k0 n0 b0 (i * 1048576)) (j1 : HJ s1 k1 n1 b1 (i * 1048576)) (j2 : HJ s2 k2 n2 b2 (i * 1048576)) (hB : (opOf script i).2.2.2.1.length ≤ 1048576) (h1 : ¬ (opOf script i).1 = 1) (h2 : ¬ (opOf script i).1 = 2) (h3 : ¬ (opOf script i).1 = 3) (h4 : ¬ (opOf script i).1 = 4) (h5 : ¬ (opOf script i).1 = 5) (g6 : (opOf script i).1 = 6) (hw : lethelaw02_rest (opOf script i).2.1 3 0) (ht : lethelaw02_rest (opOf script i).2.2.1 3 2) :
   ∃ s', lethelaw02_ShaExact_l0 script true (i, s0, k0, n0, s1, k1, n1, s2, k2, n2, b0, b1, b2) (.inl s') ∧ SI s' ∧ 60 - s'.1 < 60 - i := by
 have hm : i * 1048576 ≤ 62914560 := by omega
 have hB2 : (opOf script i).2.2.2.1.length ≤ 2097152 := by omega
 have l0 := j0.2.2
 have l1 := j1.2.2
 have l2 := j2.2.2
 exact ⟨(i + 1, s0, k0, n0, s1, k1, n1, s0, k0, n0, b0, b1, ([] ++ b0)), step_in hi h60 ⟨hi, true, s0, k0, n0, s1, k1, n1, s0, k0, n0, b0, b1, ([] ++ b0), ineg h1 (ineg h2 ⟨true, s0, k0, n0, s1, k1, n1, s0, k0, n0, b0, b1, ([] ++ b0), ⟨0, hw, 2, ht, true, 0, 2, s0, k0, n0, s1, k1, n1, s0, k0, n0, b0, b1, ([] ++ b0), ineg h3 (ineg h4 (ineg h5 (ipos g6 (ipos rfl (ineg (by decide) (ineg (by decide) ⟨rfl, ⟨_, _, _, rfl, by omega, rfl, rfl, rfl, rfl, rfl, rfl, rfl, rfl, rfl, rfl, rfl, rfl, rfl, rfl, rfl⟩⟩)))))), fun _ => ipos rfl (ineg (by decide) (ineg (by decide) ⟨rfl, ⟨rfl, rfl, rfl, rfl, rfl, rfl, rfl, rfl, rfl, rfl, rfl, rfl, rfl⟩⟩))⟩, rfl, rfl, rfl, rfl, rfl, rfl, rfl, rfl, rfl, rfl, rfl, rfl, rfl⟩), ipos rfl rfl⟩, ⟨by omega, (j0.up (by omega)), (j1.up (by omega)), (j0.copy.up (by omega))⟩, by show 60 - (i + 1) < 60 - i; omega⟩
theorem st_6_1_0 {script : List SOp} {i : Nat} {s0 s1 s2 : Nat → BitVec 32} {k0 k1 k2 : Nat → BitVec 8} {n0 n1 n2 : Int} {b0 b1 b2 : List Byte} (hi : i < script.length) (h60 : i < 60) (j0 : HJ s0 k0 n0 b0 (i * 1048576)) (j1 : HJ s1 k1 n1 b1 (i * 1048576)) (j2 : HJ s2 k2 n2 b2 (i * 1048576)) (hB : (opOf script i).2.2.2.1.length ≤ 1048576) (h1 : ¬ (opOf script i).1 = 1) (h2 : ¬ (opOf script i).1 = 2) (h3 : ¬ (opOf script i).1 = 3) (h4 : ¬ (opOf script i).1 = 4) (h5 : ¬ (opOf script i).1 = 5) (g6 : (opOf script i).1 = 6) (hw : lethelaw02_rest (opOf script i).2.1 3 1) (ht : lethelaw02_rest (opOf script i).2.2.1 3 0) :
   ∃ s', lethelaw02_ShaExact_l0 script true (i, s0, k0, n0, s1, k1, n1, s2, k2, n2, b0, b1, b2) (.inl s') ∧ SI s' ∧ 60 - s'.1 < 60 - i := by
 have hm : i * 1048576 ≤ 62914560 := by omega
 have hB2 : (opOf script i).2.2.2.1.length ≤ 2097152 := by omega
 have l0 := j0.2.2
 have l1 := j1.2.2
 have l2 := j2.2.2
 exact ⟨(i + 1, s1, k1, n1, s1, k1, n1, s2, k2, n2, ([] ++ b1), b1, b2), step_in hi h60 ⟨hi, true, s1, k1, n1, s1, k1, n1, s2, k2, n2, ([] ++ b1), b1, b2, ineg h1 (ineg h2 ⟨true, s1, k1, n1, s1, k1, n1, s2, k2, n2, ([] ++ b1), b1, b2, ⟨1, hw, 0, ht, true, 1, 0, s1, k1, n1, s1, k1, n1, s2, k2, n2, ([] ++ b1), b1, b2, ineg h3 (ineg h4 (ineg h5 (ipos g6 (ineg (by decide) (ipos rfl (ipos rfl (⟨_, _, _, rfl, by omega, rfl, rfl, rfl, rfl, rfl, rfl, rfl, rfl, rfl, rfl, rfl, rfl, rfl, rfl, rfl⟩))))))), fun _ => ineg (by decide) (ipos rfl (ipos rfl (⟨rfl, rfl, rfl, rfl, rfl, rfl, rfl, rfl, rfl, rfl, rfl, rfl, rfl⟩)))⟩, rfl, rfl, rfl, rfl, rfl, rfl, rfl, rfl, rfl, rfl, rfl, rfl, rfl⟩), ipos rfl rfl⟩, ⟨by omega, (j1.copy.up (by omega)), (j1.up (by omega)), (j2.up (by omega))⟩, by show 60 - (i + 1) < 60 - i; omega⟩
theorem st_6_1_1 {script : List SOp} {i : Nat} {s0 s1 s2 : Nat → BitVec 32} {k0 k1 k2 : Nat → BitVec 8} {n0 n1 n2 : Int} {b0 b1 b2 : List Byte} (hi : i < script.length) (h60 : i < 60) (j0 : HJ s0 k0 n0 b0 (i * 1048576)) (j1 : HJ s1 k1 n1 b1 (i * 1048576)) (j2 : HJ s2 k2 n2 b2 (i * 1048576)) (hB : (opOf script i).2.2.2.1.length ≤ 1048576) (h1 : ¬ (opOf script i).1 = 1) (h2 : ¬ (opOf script i).1 = 2) (h3 : ¬ (opOf script i).1 = 3) (h4 : ¬ (opOf script i).1 = 4) (h5 : ¬ (opOf script i).1 = 5) (g6 : (opOf script i).1 = 6) (hw : lethelaw02_rest (opOf script i).2.1 3 1) (ht : lethelaw02_rest (opOf script i).2.2.1 3 1) :
   ∃ s', lethelaw02_ShaExact_l0 script true (i, s0, k0, n0, s1, k1, n1, s2, k2, n2, b0, b1, b2) (.inl s') ∧ SI s' ∧ 60 - s'.1 < 60 - i := by
 have hm : i * 1048576 ≤ 62914560 := by omega
 have hB2 : (opOf script i).2.2.2.1.length ≤ 2097152 := by omega
 have l0 := j0.2.2
 have l1 := j1.2.2
 have l2 := j2.2.2
 exact ⟨(i + 1, s0, k0, n0, s1, k1, n1, s2, k2, n2, b0, ([] ++ b1), b2), step_in hi h60 ⟨hi, true, s0, k0, n0, s1, k1, n1, s2, k2, n2, b0, ([] ++ b1), b2, ineg h1 (ineg h2 ⟨true, s0, k0, n0, s1, k1, n1, s2, k2, n2, b0, ([] ++ b1), b2, ⟨1, hw, 1, ht, true, 1, 1, s0, k0, n0, s1, k1, n1, s2, k2, n2, b0, ([] ++ b1), b2, ineg h3 (ineg h4 (ineg h5 (ipos g6 (ineg (by decide) (ipos rfl (ineg (by decide) (ipos rfl (⟨_, _, _, rfl, by omega, rfl, rfl, rfl, rfl, rfl, rfl, rfl, rfl, rfl, rfl, rfl, rfl, rfl, rfl, rfl⟩)))))))), fun _ => ineg (by decide) (ipos rfl (ineg (by decide) (ipos rfl (⟨rfl, rfl, rfl, rfl, rfl, rfl, rfl, rfl, rfl, rfl, rfl, rfl, rfl⟩))))⟩, rfl, rfl, rfl, rfl, rfl, rfl, rfl, rfl, rfl, rfl, rfl, rfl, rfl⟩), ipos rfl rfl⟩, ⟨by omega, (j0.up (by omega)), (j1.copy.up (by omega)), (j2.up (by omega))⟩, by show 60 - (i + 1) < 60 - i; omega⟩
theorem st_6_1_2 {script : List SOp} {i : Nat} {s0 s1 s2 : Nat → BitVec 32} {k0 k1 k2 : Nat → BitVec 8} {n0 n1 n2 : Int} {b0 b1 b2 : List Byte} (hi : i < script.length) (h60 : i < 60) (j0 : HJ s0 k0 n0 b0 (i * 1048576)) (j1 : HJ s1 k1 n1 b1 (i * 1048576)) (j2 : HJ s2 k2 n2 b2 (i * 1048576)) (hB : (opOf script i).2.2.2.1.length ≤ 1048576) (h1 : ¬ (opOf script i).1 = 1) (h2 : ¬ (opOf script i).1 = 2) (h3 : ¬ (opOf script i).1 = 3) (h4 : ¬ (opOf script i).1 = 4) (h5 : ¬ (opOf script i).1 = 5) (g6 : (opOf script i).1 = 6) (hw : lethelaw02_rest (opOf script i).2.1 3 1) (ht : lethelaw02_rest (opOf script i).2.2.1 3 2) :
   ∃ s', lethelaw02_ShaExact_l0 script true (i, s0, k0, n0, s1, k1, n1, s2, k2, n2, b0, b1, b2) (.inl s') ∧ SI s' ∧ 60 - s'.1 < 60 - i := by
 have hm : i * 1048576 ≤ 62914560 := by omega
 have hB2 : (opOf script i).2.2.2.1.length ≤ 2097152 := by omega
 have l0 := j0.2.2
 have l1 := j1.2.2
 have l2 := j2.2.2
 exact ⟨(i + 1, s0, k0, n0, s1, k1, n1, s1, k1, n1, b0, b1, ([] ++ b1)), step_in hi h60 ⟨hi, true, s0, k0, n0, s1, k1, n1, s1, k1, n1, b0, b1, ([] ++ b1), ineg h1 (ineg h2 ⟨true, s0, k0, n0, s1, k1, n1, s1, k1, n1, b0, b1, ([] ++ b1), ⟨1, hw, 2, ht, true, 1, 2, s0, k0, n0, s1, k1, n1, s1, k1, n1, b0, b1, ([] ++ b1), ineg h3 (ineg h4 (ineg h5 (ipos g6 (ineg (by decide) (ipos rfl (ineg (by decide) (ineg (by decide) ⟨rfl, ⟨_, _, _, rfl, by omega, rfl, rfl, rfl, rfl, rfl, rfl, rfl, rfl, rfl, rfl, rfl, rfl, rfl, rfl, rfl⟩⟩))))))), fun _ => ineg (by decide) (ipos rfl (ineg (by decide) (ineg (by decide) ⟨rfl, ⟨rfl, rfl, rfl, rfl, rfl, rfl, rfl, rfl, rfl, rfl, rfl, rfl, rfl⟩⟩)))⟩, rfl, rfl, rfl, rfl, rfl, rfl, rfl, rfl, rfl, rfl, rfl, rfl, rfl⟩), ipos rfl rfl⟩, ⟨by omega, (j0.up (by omega)), (j1.up (by omega)), (j1.copy.up (by omega))⟩, by show 60 - (i + 1) < 60 - i; omega⟩
theorem st_6_2_0 {script : List SOp} {i : Nat} {s0 s1 s2 : Nat → BitVec 32} {k0 k1 k2 : Nat → BitVec 8} {n0 n1 n2 : Int} {b0 b1 b2 : List Byte} (hi : i < script.length) (h60 : i < 60) (j0 : HJ s0 k0 n0 b0 (i * 1048576)) (j1 : HJ s1 k1 n1 b1 (i * 1048576)) (j2 : HJ s2 k2 n2 b2 (i * 1048576)) (hB : (opOf script i).2.2.2.1.length ≤ 1048576) (h1 : ¬ (opOf script i).1 = 1) (h2 : ¬ (opOf script i).1 = 2) (h3 : ¬ (opOf script i).1 = 3) (h4 : ¬ (opOf script i).1 = 4) (h5 : ¬ (opOf script i).1 = 5) (g6 : (opOf script i).1 = 6) (hw : lethelaw02_rest (opOf script i).2.1 3 2) (ht : lethelaw02_rest (opOf script i).2.2.1 3 0) :
   ∃ s', lethelaw02_ShaExact_l0 script true (i, s0, k0, n0, s1, k1, n1, s2, k2, n2, b0, b1, b2) (.inl s') ∧ SI s' ∧ 60 - s'.1 < 60 - i := by
 have hm : i * 1048576 ≤ 62914560 := by omega
 have hB2 : (opOf script i).2.2.2.1.length ≤ 2097152 := by omega
 have l0 := j0.2.2
 have l1 := j1.2.2
 have l2 := j2.2.2
 exact ⟨(i + 1, s2, k2, n2, s1, k1, n1, s2, k2, n2, ([] ++ b2), b1, b2), step_in hi h60 ⟨hi, true, s2, k2, n2, s1, k1, n1, s2, k2, n2, ([] ++ b2), b1, b2, ineg h1 (ineg h2 ⟨true, s2, k2, n2, s1, k1, n1, s2, k2, n2, ([] ++ b2), b1, b2, ⟨2, hw, 0, ht, true, 2, 0, s2, k2, n2, s1, k1, n1, s2, k2, n2, ([] ++ b2), b1, b2, ineg h3 (ineg h4 (ineg h5 (ipos g6 (ineg (by decide) (ineg (by decide) ⟨rfl, ipos rfl (⟨_, _, _, rfl, by omega, rfl, rfl, rfl, rfl, rfl, rfl, rfl, rfl, rfl, rfl, rfl, rfl, rfl, rfl, rfl⟩)⟩))))), fun _ => ineg (by decide) (ineg (by decide) ⟨rfl, ipos rfl (⟨rfl, rfl, rfl, rfl, rfl, rfl, rfl, rfl, rfl, rfl, rfl, rfl, rfl⟩)⟩)⟩, rfl, rfl, rfl, rfl, rfl, rfl, rfl, rfl, rfl, rfl, rfl, rfl, rfl⟩), ipos rfl rfl⟩, ⟨by omega, (j2.copy.up (by omega)), (j1.up (by omega)), (j2.up (by omega))⟩, by show 60 - (i + 1) < 60 - i; omega⟩
theorem st_6_2_1 {script : List SOp} {i : Nat} {s0 s1 s2 : Nat → BitVec 32} {k0 k1 k2 : Nat → BitVec 8} {n0 n1 n2 : Int} {b0 b1 b2 : List Byte} (hi : i < script.length) (h60 : i < 60) (j0 : HJ s0 k0 n0 b0 (i * 1048576)) (j1 : HJ s1 k1 n1 b1 (i * 1048576)) (j2 : HJ s2 k2 n2 b2 (i * 1048576)) (hB : (opOf script i).2.2.2.1.length ≤ 1048576) (h1 : ¬ (opOf script i).1 = 1) (h2 : ¬ (opOf script i).1 = 2) (h3 : ¬ (opOf script i).1 = 3) (h4 : ¬ (opOf script i).1 = 4) (h5 : ¬ (opOf script i).1 = 5) (g6 : (opOf script i).1 = 6) (hw : lethelaw02_rest (opOf script i).2.1 3 2) (ht : lethelaw02_rest (opOf script i).2.2.1 3 1) :
   ∃ s', lethelaw02_ShaExact_l0 script true (i, s0, k0, n0, s1, k1, n1, s2, k2, n2, b0, b1, b2) (.inl s') ∧ SI s' ∧ 60 - s'.1 < 60 - i := by
 have hm : i * 1048576 ≤ 62914560 := by omega
 have hB2 : (opOf script i).2.2.2.1.length ≤ 2097152 := by omega
 have l0 := j0.2.2
 have l1 := j1.2.2
 have l2 := j2.2.2
 exact ⟨(i + 1, s0, k0, n0, s2, k2, n2, s2, k2, n2, b0, ([] ++ b2), b2), step_in hi h60 ⟨hi, true, s0, k0, n0, s2, k2, n2, s2, k2, n2, b0, ([] ++ b2), b2, ineg h1 (ineg h2 ⟨true, s0, k0, n0, s2, k2, n2, s2, k2, n2, b0, ([] ++ b2), b2, ⟨2, hw, 1, ht, true, 2, 1, s0, k0, n0, s2, k2, n2, s2, k2, n2, b0, ([] ++ b2), b2, ineg h3 (ineg h4 (ineg h5 (ipos g6 (ineg (by decide) (ineg (by decide) ⟨rfl, ineg (by decide) (ipos rfl (⟨_, _, _, rfl, by omega, rfl, rfl, rfl, rfl, rfl, rfl, rfl, rfl, rfl, rfl, rfl, rfl, rfl, rfl, rfl⟩))⟩))))), fun _ => ineg (by decide) (ineg (by decide) ⟨rfl, ineg (by decide) (ipos rfl (⟨rfl, rfl, rfl, rfl, rfl, rfl, rfl, rfl, rfl, rfl, rfl, rfl, rfl⟩))⟩)⟩, rfl, rfl, rfl, rfl, rfl, rfl, rfl, rfl, rfl, rfl, rfl, rfl, rfl⟩), ipos rfl rfl⟩, ⟨by omega, (j0.up (by omega)), (j2.copy.up (by omega)), (j2.up (by omega))⟩, by show 60 - (i + 1) < 60 - i; omega⟩
theorem st_6_2_2 {script : List SOp} {i : Nat} {s0 s1 s2 : Nat → BitVec 32} {k0 k1 k2 : Nat → BitVec 8} {n0 n1 n2 : Int} {b0 b1 b2 : List Byte} (hi : i < script.length) (h60 : i < 60) (j0 : HJ s0 k0 n0 b0 (i * 1048576)) (j1 : HJ s1 k1 n1 b1 (i * 1048576)) (j2 : HJ s2 k2 n2 b2 (i * 1048576)) (hB : (opOf script i).2.2.2.1.length ≤ 1048576) (h1 : ¬ (opOf script i).1 = 1) (h2 : ¬ (opOf script i).1 = 2) (h3 : ¬ (opOf script i).1 = 3) (h4 : ¬ (opOf script i).1 = 4) (h5 : ¬ (opOf script i).1 = 5) (g6 : (opOf script i).1 = 6) (hw : lethelaw02_rest (opOf script i).2.1 3 2) (ht : lethelaw02_rest (opOf script i).2.2.1 3 2) :
   ∃ s', lethelaw02_ShaExact_l0 script true (i, s0, k0, n0, s1, k1, n1, s2, k2, n2, b0, b1, b2) (.inl s') ∧ SI s' ∧ 60 - s'.1 < 60 - i := by
 have hm : i * 1048576 ≤ 62914560 := by omega
 have hB2 : (opOf script i).2.2.2.1.length ≤ 2097152 := by omega
 have l0 := j0.2.2
 have l1 := j1.2.2
 have l2 := j2.2.2
 exact ⟨(i + 1, s0, k0, n0, s1, k1, n1, s2, k2, n2, b0, b1, ([] ++ b2)), step_in hi h60 ⟨hi, true, s0, k0, n0, s1, k1, n1, s2, k2, n2, b0, b1, ([] ++ b2), ineg h1 (ineg h2 ⟨true, s0, k0, n0, s1, k1, n1, s2, k2, n2, b0, b1, ([] ++ b2), ⟨2, hw, 2, ht, true, 2, 2, s0, k0, n0, s1, k1, n1, s2, k2, n2, b0, b1, ([] ++ b2), ineg h3 (ineg h4 (ineg h5 (ipos g6 (ineg (by decide) (ineg (by decide) ⟨rfl, ineg (by decide) (ineg (by decide) ⟨rfl, ⟨_, _, _, rfl, by omega, rfl, rfl, rfl, rfl, rfl, rfl, rfl, rfl, rfl, rfl, rfl, rfl, rfl, rfl, rfl⟩⟩)⟩))))), fun _ => ineg (by decide) (ineg (by decide) ⟨rfl, ineg (by decide) (ineg (by decide) ⟨rfl, ⟨rfl, rfl, rfl, rfl, rfl, rfl, rfl, rfl, rfl, rfl, rfl, rfl, rfl⟩⟩)⟩)⟩, rfl, rfl, rfl, rfl, rfl, rfl, rfl, rfl, rfl, rfl, rfl, rfl, rfl⟩), ipos rfl rfl⟩, ⟨by omega, (j0.up (by omega)), (j1.up (by omega)), (j2.copy.up (by omega))⟩, by show 60 - (i + 1) < 60 - i; omega⟩
theorem st_7_0_0 {script : List SOp} {i : Nat} {s0 s1 s2 : Nat → BitVec 32} {k0 k1 k2 : Nat → BitVec 8} {n0 n1 n2 : Int} {b0 b1 b2 : List Byte} (hi : i < script.length) (h60 : i < 60) (j0 : HJ s0 k0 n0 b0 (i * 1048576)) (j1 : HJ s1 k1 n1 b1 (i * 1048576)) (j2 : HJ s2 k2 n2 b2 (i * 1048576)) (hB : (opOf script i).2.2.2.1.length ≤ 1048576) (h1 : ¬ (opOf script i).1 = 1) (h2 : ¬ (opOf script i).1 = 2) (h3 : ¬ (opOf script i).1 = 3) (h4 : ¬ (opOf script i).1 = 4) (h5 : ¬ (opOf script i).1 = 5) (h6 : ¬ (opOf script i).1 = 6) (g7 : (opOf script i).1 = 7) (hw : lethelaw02_rest (opOf script i).2.1 3 0) (ht : lethelaw02_rest (opOf script i).2.2.1 3 0) :
   ∃ s', lethelaw02_ShaExact_l0 script true (i, s0, k0, n0, s1, k1, n1, s2, k2, n2, b0, b1, b2) (.inl s') ∧ SI s' ∧ 60 - s'.1 < 60 - i := by
 have hm : i * 1048576 ≤ 62914560 := by omega
 have hB2 : (opOf script i).2.2.2.1.length ≤ 2097152 := by omega
 have l0 := j0.2.2
 have l1 := j1.2.2
 have l2 := j2.2.2
 exact ⟨(i + 1, H256, (fun _ => 0#8), ((0 : Nat) : Int), s1, k1, n1, s2, k2, n2, [], b1, b2), step_in hi h60 ⟨hi, true, H256, (fun _ => 0#8), ((0 : Nat) : Int), s1, k1, n1, s2, k2, n2, [], b1, b2, ineg h1 (ineg h2 ⟨true, H256, (fun _ => 0#8), ((0 : Nat) : Int), s1, k1, n1, s2, k2, n2, [], b1, b2, ⟨0, hw, 0, ht, true, 0, 0, H256, (fun _ => 0#8), ((0 : Nat) : Int), s1, k1, n1, s2, k2, n2, [], b1, b2, ineg h3 (ineg h4 (ineg h5 (ineg h6 (ipos g7 (ipos rfl (⟨H256, (fun _ => 0#8), ((0 : Nat) : Int), ⟨_, _, _, rfl, rfl⟩, rfl, rfl, rfl, rfl, rfl, rfl, rfl, rfl, rfl, rfl, rfl, rfl, rfl, rfl, rfl⟩)))))), fun _ => ipos rfl (ipos rfl (⟨rfl, rfl, rfl, rfl, rfl, rfl, rfl, rfl, rfl, rfl, rfl, rfl, rfl⟩))⟩, rfl, rfl, rfl, rfl, rfl, rfl, rfl, rfl, rfl, rfl, rfl, rfl, rfl⟩), ipos rfl rfl⟩, ⟨by omega, (HJ.new), (j1.up (by omega)), (j2.up (by omega))⟩, by show 60 - (i + 1) < 60 - i; omega⟩
theorem st_7_0_1 {script : List SOp} {i : Nat} {s0 s1 s2 : Nat → BitVec 32} {k0 k1 k2 : Nat → BitVec 8} {n0 n1 n2 : Int} {b0 b1 b2 : List Byte} (hi : i < script.length) (h60 : i < 60) (j0 : HJ s0 k0 n0 b0 (i * 1048576)) (j1 : HJ s1 k1 n1 b1 (i * 1048576)) (j2 : HJ s2 k2 n2 b2 (i * 1048576)) (hB : (opOf script i).2.2.2.1.length ≤ 1048576) (h1 : ¬ (opOf script i).1 = 1) (h2 : ¬ (opOf script i).1 = 2) (h3 : ¬ (opOf script i).1 = 3) (h4 : ¬ (opOf script i).1 = 4) (h5 : ¬ (opOf script i).1 = 5) (h6 : ¬ (opOf script i).1 = 6) (g7 : (opOf script i).1 = 7) (hw : lethelaw02_rest (opOf script i).2.1 3 0) (ht : lethelaw02_rest (opOf script i).2.2.1 3 1) :
   ∃ s', lethelaw02_ShaExact_l0 script true (i, s0, k0, n0, s1, k1, n1, s2, k2, n2, b0, b1, b2) (.inl s') ∧ SI s' ∧ 60 - s'.1 < 60 - i := by
 have hm : i * 1048576 ≤ 62914560 := by omega
 have hB2 : (opOf script i).2.2.2.1.length ≤ 2097152 := by omega
 have l0 := j0.2.2
 have l1 := j1.2.2
 have l2 := j2.2.2
 exact ⟨(i + 1, H256, (fun _ => 0#8), ((0 : Nat) : Int), s1, k1, n1, s2, k2, n2, [], b1, b2), step_in hi h60 ⟨hi, true, H256, (fun _ => 0#8), ((0 : Nat) : Int), s1, k1, n1, s2, k2, n2, [], b1, b2, ineg h1 (ineg h2 ⟨true, H256, (fun _ => 0#8), ((0 : Nat) : Int), s1, k1, n1, s2, k2, n2, [], b1, b2, ⟨0, hw, 1, ht, true, 0, 1, H256, (fun _ => 0#8), ((0 : Nat) : Int), s1, k1, n1, s2, k2, n2, [], b1, b2, ineg h3 (ineg h4 (ineg h5 (ineg h6 (ipos g7 (ipos rfl (⟨H256, (fun _ => 0#8), ((0 : Nat) : Int), ⟨_, _, _, rfl, rfl⟩, rfl, rfl, rfl, rfl, rfl, rfl, rfl, rfl, rfl, rfl, rfl, rfl, rfl, rfl, rfl⟩)))))), fun _ => ipos rfl (ineg (by decide) (ipos rfl (⟨rfl, rfl, rfl, rfl, rfl, rfl, rfl, rfl, rfl, rfl, rfl, rfl, rfl⟩)))⟩, rfl, rfl, rfl, rfl, rfl, rfl, rfl, rfl, rfl, rfl, rfl, rfl, rfl⟩), ipos rfl rfl⟩, ⟨by omega, (HJ.new), (j1.up (by omega)), (j2.up (by omega))⟩, by show 60 - (i + 1) < 60 - i; omega⟩
theorem st_7_0_2 {script : List SOp} {i : Nat} {s0 s1 s2 : Nat → BitVec 32} {k0 k1 k2 : Nat → BitVec 8} {n0 n1 n2 : Int} {b0 b1 b2 : List Byte} (hi : i < script.length) (h60 : i < 60) (j0 : HJ s0 k0 n0 b0 (i * 1048576)) (j1 : HJ s1 k1 n1 b1 (i * 1048576)) (j2 : HJ s2 k2 n2 b2 (i * 1048576)) (hB : (opOf script i).2.2.2.1.length ≤ 1048576) (h1 : ¬ (opOf script i).1 = 1) (h2 : ¬ (opOf script i).1 = 2) (h3 : ¬ (opOf script i).1 = 3) (h4 : ¬ (opOf script i).1 = 4) (h5 : ¬ (opOf script i).1 = 5) (h6 : ¬ (opOf script i).1 = 6) (g7 : (opOf script i).1 = 7) (hw : lethelaw02_rest (opOf script i).2.1 3 0) (ht : lethelaw02_rest (opOf script i).2.2.1 3 2) :
   ∃ s', lethelaw02_ShaExact_l0 script true (i, s0, k0, n0, s1, k1, n1, s2, k2, n2, b0, b1, b2) (.inl s') ∧ SI s' ∧ 60 - s'.1 < 60 - i := by
 have hm : i * 1048576 ≤ 62914560 := by omega
 have hB2 : (opOf script i).2.2.2.1.length ≤ 2097152 := by omega
 have l0 := j0.2.2
 have l1 := j1.2.2
 have l2 := j2.2.2
 exact ⟨(i + 1, H256, (fun _ => 0#8), ((0 : Nat) : Int), s1, k1, n1, s2, k2, n2, [], b1, b2), step_in hi h60 ⟨hi, true, H256, (fun _ => 0#8), ((0 : Nat) : Int), s1, k1, n1, s2, k2, n2, [], b1, b2, ineg h1 (ineg h2 ⟨true, H256, (fun _ => 0#8), ((0 : Nat) : Int), s1, k1, n1, s2, k2, n2, [], b1, b2, ⟨0, hw, 2, ht, true, 0, 2, H256, (fun _ => 0#8), ((0 : Nat) : Int), s1, k1, n1, s2, k2, n2, [], b1, b2, ineg h3 (ineg h4 (ineg h5 (ineg h6 (ipos g7 (ipos rfl (⟨H256, (fun _ => 0#8), ((0 : Nat) : Int), ⟨_, _, _, rfl, rfl⟩, rfl, rfl, rfl, rfl, rfl, rfl, rfl, rfl, rfl, rfl, rfl, rfl, rfl, rfl, rfl⟩)))))), fun _ => ipos rfl (ineg (by decide) (ineg (by decide) ⟨rfl, ⟨rfl, rfl, rfl, rfl, rfl, rfl, rfl, rfl, rfl, rfl, rfl, rfl, rfl⟩⟩))⟩, rfl, rfl, rfl, rfl, rfl, rfl, rfl, rfl, rfl, rfl, rfl, rfl, rfl⟩), ipos rfl rfl⟩, ⟨by omega, (HJ.new), (j1.up (by omega)), (j2.up (by omega))⟩, by show 60 - (i + 1) < 60 - i; omega⟩
theorem st_7_1_0 {script : List SOp} {i : Nat} {s0 s1 s2 : Nat → BitVec 32} {k0 k1 k2 : Nat → BitVec 8} {n0 n1 n2 : Int} {b0 b1 b2 : List Byte} (hi : i < script.length) (h60 : i < 60) (j0 : HJ s0 k0 n0 b0 (i * 1048576)) (j1 : HJ s1 k1 n1 b1 (i * 1048576)) (j2 : HJ s2 k2 n2 b2 (i * 1048576)) (hB : (opOf script i).2.2.2.1.length ≤ 1048576) (h1 : ¬ (opOf script i).1 = 1) (h2 : ¬ (opOf script i).1 = 2) (h3 : ¬ (opOf script i).1 = 3) (h4 : ¬ (opOf script i).1 = 4) (h5 : ¬ (opOf script i).1 = 5) (h6 : ¬ (opOf script i).1 = 6) (g7 : (opOf script i).1 = 7) (hw : lethelaw02_rest (opOf script i).2.1 3 1) (ht : lethelaw02_rest (opOf script i).2.2.1 3 0) :
   ∃ s', lethelaw02_ShaExact_l0 script true (i, s0, k0, n0, s1, k1, n1, s2, k2, n2, b0, b1, b2) (.inl s') ∧ SI s' ∧ 60 - s'.1 < 60 - i := by
 have hm : i * 1048576 ≤ 62914560 := by omega
 have hB2 : (opOf script i).2.2.2.1.length ≤ 2097152 := by omega
 have l0 := j0.2.2
 have l1 := j1.2.2
 have l2 := j2.2.2
 exact ⟨(i + 1, s0, k0, n0, H256, (fun _ => 0#8), ((0 : Nat) : Int), s2, k2, n2, b0, [], b2), step_in hi h60 ⟨hi, true, s0, k0, n0, H256, (fun _ => 0#8), ((0 : Nat) : Int), s2, k2, n2, b0, [], b2, ineg h1 (ineg h2 ⟨true, s0, k0, n0, H256, (fun _ => 0#8), ((0 : Nat) : Int), s2, k2, n2, b0, [], b2, ⟨1, hw, 0, ht, true, 1, 0, s0, k0, n0, H256, (fun _ => 0#8), ((0 : Nat) : Int), s2, k2, n2, b0, [], b2, ineg h3 (ineg h4 (ineg h5 (ineg h6 (ipos g7 (ineg (by decide) (ipos rfl (⟨H256, (fun _ => 0#8), ((0 : Nat) : Int), ⟨_, _, _, rfl, rfl⟩, rfl, rfl, rfl, rfl, rfl, rfl, rfl, rfl, rfl, rfl, rfl, rfl, rfl, rfl, rfl⟩))))))), fun _ => ineg (by decide) (ipos rfl (ipos rfl (⟨rfl, rfl, rfl, rfl, rfl, rfl, rfl, rfl, rfl, rfl, rfl, rfl, rfl⟩)))⟩, rfl, rfl, rfl, rfl, rfl, rfl, rfl, rfl, rfl, rfl, rfl, rfl, rfl⟩), ipos rfl rfl⟩, ⟨by omega, (j0.up (by omega)), (HJ.new), (j2.up (by omega))⟩, by show 60 - (i + 1) < 60 - i; omega⟩
theorem st_7_1_1 {script : List SOp} {i : Nat} {s0 s1 s2 : Nat → BitVec 32} {k0 k1 k2 : Nat → BitVec 8} {n0 n1 n2 : Int} {b0 b1 b2 : List Byte} (hi : i < script.length) (h60 : i < 60) (j0 : HJ s0 k0 n0 b0 (i * 1048576)) (j1 : HJ s1 k1 n1 b1 (i * 1048576)) (j2 : HJ s2 k2 n2 b2 (i * 1048576)) (hB : (opOf script i).2.2.2.1.length ≤ 1048576) (h1 : ¬ (opOf script i).1 = 1) (h2 : ¬ (opOf script i).1 = 2) (h3 : ¬ (opOf script i).1 = 3) (h4 : ¬ (opOf script i).1 = 4) (h5 : ¬ (opOf script i).1 = 5) (h6 : ¬ (opOf script i).1 = 6) (g7 : (opOf script i).1 = 7) (hw : lethelaw02_rest (opOf script i).2.1 3 1) (ht : lethelaw02_rest (opOf script i).2.2.1 3 1) :
   ∃ s', lethelaw02_ShaExact_l0 script true (i, s0, k0, n0, s1, k1, n1, s2, k2, n2, b0, b1, b2) (.inl s') ∧ SI s' ∧ 60 - s'.1 < 60 - i := by
 have hm : i * 1048576 ≤ 62914560 := by omega
 have hB2 : (opOf script i).2.2.2.1.length ≤ 2097152 := by omega
 have l0 := j0.2.2
 have l1 := j1.2.2
 have l2 := j2.2.2
 exact ⟨(i + 1, s0, k0, n0, H256, (fun _ => 0#8), ((0 : Nat) : Int), s2, k2, n2, b0, [], b2), step_in hi h60 ⟨hi, true, s0, k0, n0, H256, (fun _ => 0#8), ((0 : Nat) : Int), s2, k2, n2, b0, [], b2, ineg h1 (ineg h2 ⟨true, s0, k0, n0, H256, (fun _ => 0#8), ((0 : Nat) : Int), s2, k2, n2, b0, [], b2, ⟨1, hw, 1, ht, true, 1, 1, s0, k0, n0, H256, (fun _ => 0#8), ((0 : Nat) : Int), s2, k2, n2, b0, [], b2, ineg h3 (ineg h4 (ineg h5 (ineg h6 (ipos g7 (ineg (by decide) (ipos rfl (⟨H256, (fun _ => 0#8), ((0 : Nat) : Int), ⟨_, _, _, rfl, rfl⟩, rfl, rfl, rfl, rfl, rfl, rfl, rfl, rfl, rfl, rfl, rfl, rfl, rfl, rfl, rfl⟩))))))), fun _ => ineg (by decide) (ipos rfl (ineg (by decide) (ipos rfl (⟨rfl, rfl, rfl, rfl, rfl, rfl, rfl, rfl, rfl, rfl, rfl, rfl, rfl⟩))))⟩, rfl, rfl, rfl, rfl, rfl, rfl, rfl, rfl, rfl, rfl, rfl, rfl, rfl⟩), ipos rfl rfl⟩, ⟨by omega, (j0.up (by omega)), (HJ.new), (j2.up (by omega))⟩, by show 60 - (i + 1) < 60 - i; omega⟩
theorem st_7_1_2 {script : List SOp} {i : Nat} {s0 s1 s2 : Nat → BitVec 32} {k0 k1 k2 : Nat → BitVec 8} {n0 n1 n2 : Int} {b0 b1 b2 : List Byte} (hi : i < script.length) (h60 : i < 60) (j0 : HJ s0 k0 n0 b0 (i * 1048576)) (j1 : HJ s1 k1 n1 b1 (i * 1048576)) (j2 : HJ s2 k2 n2 b2 (i * 1048576)) (hB : (opOf script i).2.2.2.1.length ≤ 1048576) (h1 : ¬ (opOf script i).1 = 1) (h2 : ¬ (opOf script i).1 = 2) (h3 : ¬ (opOf script i).1 = 3) (h4 : ¬ (opOf script i).1 = 4) (h5 : ¬ (opOf script i).1 = 5) (h6 : ¬ (opOf script i).1 = 6) (g7 : (opOf script i).1 = 7) (hw : lethelaw02_rest (opOf script i).2.1 3 1) (ht : lethelaw02_rest (opOf script i).2.2.1 3 2) :
   ∃ s', lethelaw02_ShaExact_l0 script true (i, s0, k0, n0, s1, k1, n1, s2, k2, n2, b0, b1, b2) (.inl s') ∧ SI s' ∧ 60 - s'.1 < 60 - i := by
 have hm : i * 1048576 ≤ 62914560 := by omega
 have hB2 : (opOf script i).2.2.2.1.length ≤ 2097152 := by omega
 have l0 := j0.2.2
 have l1 := j1.2.2
 have l2 := j2.2.2
 exact ⟨(i + 1, s0, k0, n0, H256, (fun _ => 0#8), ((0 : Nat) : Int), s2, k2, n2, b0, [], b2), step_in hi h60 ⟨hi, true, s0, k0, n0, H256, (fun _ => 0#8), ((0 : Nat) : Int), s2, k2, n2, b0, [], b2, ineg h1 (ineg h2 ⟨true, s0, k0, n0, H256, (fun _ => 0#8), ((0 : Nat) : Int), s2, k2, n2, b0, [], b2, ⟨1, hw, 2, ht, true, 1, 2, s0, k0, n0, H256, (fun _ => 0#8), ((0 : Nat) : Int), s2, k2, n2, b0, [], b2, ineg h3 (ineg h4 (ineg h5 (ineg h6 (ipos g7 (ineg (by decide) (ipos rfl (⟨H256, (fun _ => 0#8), ((0 : Nat) : Int), ⟨_, _, _, rfl, rfl⟩, rfl, rfl, rfl, rfl, rfl, rfl, rfl, rfl, rfl, rfl, rfl, rfl, rfl, rfl, rfl⟩))))))), fun _ => ineg (by decide) (ipos rfl (ineg (by decide) (ineg (by decide) ⟨rfl, ⟨rfl, rfl, rfl, rfl, rfl, rfl, rfl, rfl, rfl, rfl, rfl, rfl, rfl⟩⟩)))⟩, rfl, rfl, rfl, rfl, rfl, rfl, rfl, rfl, rfl, rfl, rfl, rfl, rfl⟩), ipos rfl rfl⟩, ⟨by omega, (j0.up (by omega)), (HJ.new), (j2.up (by omega))⟩, by show 60 - (i + 1) < 60 - i; omega⟩
theorem st_7_2_0 {script : List SOp} {i : Nat} {s0 s1 s2 : Nat → BitVec 32} {k0 k1 k2 : Nat → BitVec 8} {n0 n1 n2 : Int} {b0 b1 b2 : List Byte} (hi : i < script.length) (h60 : i < 60) (j0 : HJ s0 k0 n0 b0 (i * 1048576)) (j1 : HJ s1 k1 n1 b1 (i * 1048576)) (j2 : HJ s2 k2 n2 b2 (i * 1048576)) (hB : (opOf script i).2.2.2.1.length ≤ 1048576) (h1 : ¬ (opOf script i).1 = 1) (h2 : ¬ (opOf script i).1 = 2) (h3 : ¬ (opOf script i).1 = 3) (h4 : ¬ (opOf script i).1 = 4) (h5 : ¬ (opOf script i).1 = 5) (h6 : ¬ (opOf script i).1 = 6) (g7 : (opOf script i).1 = 7) (hw : lethelaw02_rest (opOf script i).2.1 3 2) (ht : lethelaw02_rest (opOf script i).2.2.1 3 0) :
   ∃ s', lethelaw02_ShaExact_l0 script true (i, s0, k0, n0, s1, k1, n1, s2, k2, n2, b0, b1, b2) (.inl s') ∧ SI s' ∧ 60 - s'.1 < 60 - i := by
 have hm : i * 1048576 ≤ 62914560 := by omega
 have hB2 : (opOf script i).2.2.2.1.length ≤ 2097152 := by omega
 have l0 := j0.2.2
 have l1 := j1.2.2
 have l2 := j2.2.2
 exact ⟨(i + 1, s0, k0, n0, s1, k1, n1, H256, (fun _ => 0#8), ((0 : Nat) : Int), b0, b1, []), step_in hi h60 ⟨hi, true, s0, k0, n0, s1, k1, n1, H256, (fun _ => 0#8), ((0 : Nat) : Int), b0, b1, [], ineg h1 (ineg h2 ⟨true, s0, k0, n0, s1, k1, n1, H256, (fun _ => 0#8), ((0 : Nat) : Int), b0, b1, [], ⟨2, hw, 0, ht, true, 2, 0, s0, k0, n0, s1, k1, n1, H256, (fun _ => 0#8), ((0 : Nat) : Int), b0, b1, [], ineg h3 (ineg h4 (ineg h5 (ineg h6 (ipos g7 (ineg (by decide) (ineg (by decide) ⟨rfl, ⟨H256, (fun _ => 0#8), ((0 : Nat) : Int), ⟨_, _, _, rfl, rfl⟩, rfl, rfl, rfl, rfl, rfl, rfl, rfl, rfl, rfl, rfl, rfl, rfl, rfl, rfl, rfl⟩⟩)))))), fun _ => ineg (by decide) (ineg (by decide) ⟨rfl, ipos rfl (⟨rfl, rfl, rfl, rfl, rfl, rfl, rfl, rfl, rfl, rfl, rfl, rfl, rfl⟩)⟩)⟩, rfl, rfl, rfl, rfl, rfl, rfl, rfl, rfl, rfl, rfl, rfl, rfl, rfl⟩), ipos rfl rfl⟩, ⟨by omega, (j0.up (by omega)), (j1.up (by omega)), (HJ.new)⟩, by show 60 - (i + 1) < 60 - i; omega⟩
theorem st_7_2_1 {script : List SOp} {i : Nat} {s0 s1 s2 : Nat → BitVec 32} {k0 k1 k2 : Nat → BitVec 8} {n0 n1 n2 : Int} {b0 b1 b2 : List Byte} (hi : i < script.length) (h60 : i < 60) (j0 : HJ s0 k0 n0 b0 (i * 1048576)) (j1 : HJ s1 k1 n1 b1 (i * 1048576)) (j2 : HJ s2 k2 n2 b2 (i * 1048576)) (hB : (opOf script i).2.2.2.1.length ≤ 1048576) (h1 : ¬ (opOf script i).1 = 1) (h2 : ¬ (opOf script i).1 = 2) (h3 : ¬ (opOf script i).1 = 3) (h4 : ¬ (opOf script i).1 = 4) (h5 : ¬ (opOf script i).1 = 5) (h6 : ¬ (opOf script i).1 = 6) (g7 : (opOf script i).1 = 7) (hw : lethelaw02_rest (opOf script i).2.1 3 2) (ht : lethelaw02_rest (opOf script i).2.2.1 3 1) :
   ∃ s', lethelaw02_ShaExact_l0 script true (i, s0, k0, n0, s1, k1, n1, s2, k2, n2, b0, b1, b2) (.inl s') ∧ SI s' ∧ 60 - s'.1 < 60 - i := by
 have hm : i * 1048576 ≤ 62914560 := by omega
 have hB2 : (opOf script i).2.2.2.1.length ≤ 2097152 := by omega
 have l0 := j0.2.2
 have l1 := j1.2.2
 have l2 := j2.2.2
 exact ⟨(i + 1, s0, k0, n0, s1, k1, n1, H256, (fun _ => 0#8), ((0 : Nat) : Int), b0, b1, []), step_in hi h60 ⟨hi, true, s0, k0, n0, s1, k1, n1, H256, (fun _ => 0#8), ((0 : Nat) : Int), b0, b1, [], ineg h1 (ineg h2 ⟨true, s0, k0, n0, s1, k1, n1, H256, (fun _ => 0#8), ((0 : Nat) : Int), b0, b1, [], ⟨2, hw, 1, ht, true, 2, 1, s0, k0, n0, s1, k1, n1, H256, (fun _ => 0#8), ((0 : Nat) : Int), b0, b1, [], ineg h3 (ineg h4 (ineg h5 (ineg h6 (ipos g7 (ineg (by decide) (ineg (by decide) ⟨rfl, ⟨H256, (fun _ => 0#8), ((0 : Nat) : Int), ⟨_, _, _, rfl, rfl⟩, rfl, rfl, rfl, rfl, rfl, rfl, rfl, rfl, rfl, rfl, rfl, rfl, rfl, rfl, rfl⟩⟩)))))), fun _ => ineg (by decide) (ineg (by decide) ⟨rfl, ineg (by decide) (ipos rfl (⟨rfl, rfl, rfl, rfl, rfl, rfl, rfl, rfl, rfl, rfl, rfl, rfl, rfl⟩))⟩)⟩, rfl, rfl, rfl, rfl, rfl, rfl, rfl, rfl, rfl, rfl, rfl, rfl, rfl⟩), ipos rfl rfl⟩, ⟨by omega, (j0.up (by omega)), (j1.up (by omega)), (HJ.new)⟩, by show 60 - (i + 1) < 60 - i; omega⟩
theorem st_7_2_2 {script : List SOp} {i : Nat} {s0 s1 s2 : Nat → BitVec 32} {k0 k1 k2 : Nat → BitVec 8} {n0 n1 n2 : Int} {b0 b1 b2 : List Byte} (hi : i < script.length) (h60 : i < 60) (j0 : HJ s0 k0 n0 b0 (i * 1048576)) (j1 : HJ s1 k1 n1 b1 (i * 1048576)) (j2 : HJ s2 k2 n2 b2 (i * 1048576)) (hB : (opOf script i).2.2.2.1.length ≤ 1048576) (h1 : ¬ (opOf script i).1 = 1) (h2 : ¬ (opOf script i).1 = 2) (h3 : ¬ (opOf script i).1 = 3) (h4 : ¬ (opOf script i).1 = 4) (h5 : ¬ (opOf script i).1 = 5) (h6 : ¬ (opOf script i).1 = 6) (g7 : (opOf script i).1 = 7) (hw : lethelaw02_rest (opOf script i).2.1 3 2) (ht : lethelaw02_rest (opOf script i).2.2.1 3 2) :
   ∃ s', lethelaw02_ShaExact_l0 script true (i, s0, k0, n0, s1, k1, n1, s2, k2, n2, b0, b1, b2) (.inl s') ∧ SI s' ∧ 60 - s'.1 < 60 - i := by
 have hm : i * 1048576 ≤ 62914560 := by omega
 have hB2 : (opOf script i).2.2.2.1.length ≤ 2097152 := by omega
 have l0 := j0.2.2
 have l1 := j1.2.2
 have l2 := j2.2.2
 exact ⟨(i + 1, s0, k0, n0, s1, k1, n1, H256, (fun _ => 0#8), ((0 : Nat) : Int), b0, b1, []), step_in hi h60 ⟨hi, true, s0, k0, n0, s1, k1, n1, H256, (fun _ => 0#8), ((0 : Nat) : Int), b0, b1, [], ineg h1 (ineg h2 ⟨true, s0, k0, n0, s1, k1, n1, H256, (fun _ => 0#8), ((0 : Nat) : Int), b0, b1, [], ⟨2, hw, 2, ht, true, 2, 2, s0, k0, n0, s1, k1, n1, H256, (fun _ => 0#8), ((0 : Nat) : Int), b0, b1, [], ineg h3 (ineg h4 (ineg h5 (ineg h6 (ipos g7 (ineg (by decide) (ineg (by decide) ⟨rfl, ⟨H256, (fun _ => 0#8), ((0 : Nat) : Int), ⟨_, _, _, rfl, rfl⟩, rfl, rfl, rfl, rfl, rfl, rfl, rfl, rfl, rfl, rfl, rfl, rfl, rfl, rfl, rfl⟩⟩)))))), fun _ => ineg (by decide) (ineg (by decide) ⟨rfl, ineg (by decide) (ineg (by decide) ⟨rfl, ⟨rfl, rfl, rfl, rfl, rfl, rfl, rfl, rfl, rfl, rfl, rfl, rfl, rfl⟩⟩)⟩)⟩, rfl, rfl, rfl, rfl, rfl, rfl, rfl, rfl, rfl, rfl, rfl, rfl, rfl⟩), ipos rfl rfl⟩, ⟨by omega, (j0.up (by omega)), (j1.up (by omega)), (HJ.new)⟩, by show 60 - (i + 1) < 60 - i; omega⟩
theorem st_0_0_0 {script : List SOp} {i : Nat} {s0 s1 s2 : Nat → BitVec 32} {k0 k1 k2 : Nat → BitVec 8} {n0 n1 n2 : Int} {b0 b1 b2 : List Byte} (hi : i < script.length) (h60 : i < 60) (j0 : HJ s0 k0 n0 b0 (i * 1048576)) (j1 : HJ s1 k1 n1 b1 (i * 1048576)) (j2 : HJ s2 k2 n2 b2 (i * 1048576)) (hB : (opOf script i).2.2.2.1.length ≤ 1048576) (h1 : ¬ (opOf script i).1 = 1) (h2 : ¬ (opOf script i).1 = 2) (h3 : ¬ (opOf script i).1 = 3) (h4 : ¬ (opOf script i).1 = 4) (h5 : ¬ (opOf script i).1 = 5) (h6 : ¬ (opOf script i).1 = 6) (h7 : ¬ (opOf script i).1 = 7) (hw : lethelaw02_rest (opOf script i).2.1 3 0) (ht : lethelaw02_rest (opOf script i).2.2.1 3 0) :
   ∃ s', lethelaw02_ShaExact_l0 script true (i, s0, k0, n0, s1, k1, n1, s2, k2, n2, b0, b1, b2) (.inl s') ∧ SI s' ∧ 60 - s'.1 < 60 - i := by
 have hm : i * 1048576 ≤ 62914560 := by omega
 have hB2 : (opOf script i).2.2.2.1.length ≤ 2097152 := by omega
 have l0 := j0.2.2
 have l1 := j1.2.2
 have l2 := j2.2.2
 exact ⟨(i + 1, s0, k0, n0, s1, k1, n1, s2, k2, n2, b0, b1, b2), step_in hi h60 ⟨hi, true, s0, k0, n0, s1, k1, n1, s2, k2, n2, b0, b1, b2, ineg h1 (ineg h2 ⟨true, s0, k0, n0, s1, k1, n1, s2, k2, n2, b0, b1, b2, ⟨0, hw, 0, ht, true, 0, 0, s0, k0, n0, s1, k1, n1, s2, k2, n2, b0, b1, b2, ineg h3 (ineg h4 (ineg h5 (ineg h6 (ineg h7 (⟨rfl, rfl, rfl, rfl, rfl, rfl, rfl, rfl, rfl, rfl, rfl, rfl, rfl, rfl, rfl⟩))))), fun _ => ipos rfl (ipos rfl (⟨rfl, rfl, rfl, rfl, rfl, rfl, rfl, rfl, rfl, rfl, rfl, rfl, rfl⟩))⟩, rfl, rfl, rfl, rfl, rfl, rfl, rfl, rfl, rfl, rfl, rfl, rfl, rfl⟩), ipos rfl rfl⟩, ⟨by omega, (j0.up (by omega)), (j1.up (by omega)), (j2.up (by omega))⟩, by show 60 - (i + 1) < 60 - i; omega⟩
theorem st_0_0_1 {script : List SOp} {i : Nat} {s0 s1 s2 : Nat → BitVec 32} {k0 k1 k2 : Nat → BitVec 8} {n0 n1 n2 : Int} {b0 b1 b2 : List Byte} (hi : i < script.length) (h60 : i < 60) (j0 : HJ s0 k0 n0 b0 (i * 1048576)) (j1 : HJ s1 k1 n1 b1 (i * 1048576)) (j2 : HJ s2 k2 n2 b2 (i * 1048576)) (hB : (opOf script i).2.2.2.1.length ≤ 1048576) (h1 : ¬ (opOf script i).1 = 1) (h2 : ¬ (opOf script i).1 = 2) (h3 : ¬ (opOf script i).1 = 3) (h4 : ¬ (opOf script i).1 = 4) (h5 : ¬ (opOf script i).1 = 5) (h6 : ¬ (opOf script i).1 = 6) (h7 : ¬ (opOf script i).1 = 7) (hw : lethelaw02_rest (opOf script i).2.1 3 0) (ht : lethelaw02_rest (opOf script i).2.2.1 3 1) :
   ∃ s', lethelaw02_ShaExact_l0 script true (i, s0, k0, n0, s1, k1, n1, s2, k2, n2, b0, b1, b2) (.inl s') ∧ SI s' ∧ 60 - s'.1 < 60 - i := by
 have hm : i * 1048576 ≤ 62914560 := by omega
 have hB2 : (opOf script i).2.2.2.1.length ≤ 2097152 := by omega
 have l0 := j0.2.2
 have l1 := j1.2.2
 have l2 := j2.2.2
 exact ⟨(i + 1, s0, k0, n0, s1, k1, n1, s2, k2, n2, b0, b1, b2), step_in hi h60 ⟨hi, true, s0, k0, n0, s1, k1, n1, s2, k2, n2, b0, b1, b2, ineg h1 (ineg h2 ⟨true, s0, k0, n0, s1, k1, n1, s2, k2, n2, b0, b1, b2, ⟨0, hw, 1, ht, true, 0, 1, s0, k0, n0, s1, k1, n1, s2, k2, n2, b0, b1, b2, ineg h3 (ineg h4 (ineg h5 (ineg h6 (ineg h7 (⟨rfl, rfl, rfl, rfl, rfl, rfl, rfl, rfl, rfl, rfl, rfl, rfl, rfl, rfl, rfl⟩))))), fun _ => ipos rfl (ineg (by decide) (ipos rfl (⟨rfl, rfl, rfl, rfl, rfl, rfl, rfl, rfl, rfl, rfl, rfl, rfl, rfl⟩)))⟩, rfl, rfl, rfl, rfl, rfl, rfl, rfl, rfl, rfl, rfl, rfl, rfl, rfl⟩), ipos rfl rfl⟩, ⟨by omega, (j0.up (by omega)), (j1.up (by omega)), (j2.up (by omega))⟩, by show 60 - (i + 1) < 60 - i; omega⟩
theorem st_0_0_2 {script : List SOp} {i : Nat} {s0 s1 s2 : Nat → BitVec 32} {k0 k1 k2 : Nat → BitVec 8} {n0 n1 n2 : Int} {b0 b1 b2 : List Byte} (hi : i < script.length) (h60 : i < 60) (j0 : HJ s0 k0 n0 b0 (i * 1048576)) (j1 : HJ s1 k1 n1 b1 (i * 1048576)) (j2 : HJ s2 k2 n2 b2 (i * 1048576)) (hB : (opOf script i).2.2.2.1.length ≤ 1048576) (h1 : ¬ (opOf script i).1 = 1) (h2 : ¬ (opOf script i).1 = 2) (h3 : ¬ (opOf script i).1 = 3) (h4 : ¬ (opOf script i).1 = 4) (h5 : ¬ (opOf script i).1 = 5) (h6 : ¬ (opOf script i).1 = 6) (h7 : ¬ (opOf script i).1 = 7) (hw : lethelaw02_rest (opOf script i).2.1 3 0) (ht : lethelaw02_rest (opOf script i).2.2.1 3 2) :
   ∃ s', lethelaw02_ShaExact_l0 script true (i, s0, k0, n0, s1, k1, n1, s2, k2, n2, b0, b1, b2) (.inl s') ∧ SI s' ∧ 60 - s'.1 < 60 - i := by
 have hm : i * 1048576 ≤ 62914560 := by omega
 have hB2 : (opOf script i).2.2.2.1.length ≤ 2097152 := by omega
 have l0 := j0.2.2
 have l1 := j1.2.2
 have l2 := j2.2.2
 exact ⟨(i + 1, s0, k0, n0, s1, k1, n1, s2, k2, n2, b0, b1, b2), step_in hi h60 ⟨hi, true, s0, k0, n0, s1, k1, n1, s2, k2, n2, b0, b1, b2, ineg h1 (ineg h2 ⟨true, s0, k0, n0, s1, k1, n1, s2, k2, n2, b0, b1, b2, ⟨0, hw, 2, ht, true, 0, 2, s0, k0, n0, s1, k1, n1, s2, k2, n2, b0, b1, b2, ineg h3 (ineg h4 (ineg h5 (ineg h6 (ineg h7 (⟨rfl, rfl, rfl, rfl, rfl, rfl, rfl, rfl, rfl, rfl, rfl, rfl, rfl, rfl, rfl⟩))))), fun _ => ipos rfl (ineg (by decide) (ineg (by decide) ⟨rfl, ⟨rfl, rfl, rfl, rfl, rfl, rfl, rfl, rfl, rfl, rfl, rfl, rfl, rfl⟩⟩))⟩, rfl, rfl, rfl, rfl, rfl, rfl, rfl, rfl, rfl, rfl, rfl, rfl, rfl⟩), ipos rfl rfl⟩, ⟨by omega, (j0.up (by omega)), (j1.up (by omega)), (j2.up (by omega))⟩, by show 60 - (i + 1) < 60 - i; omega⟩
theorem st_0_1_0 {script : List SOp} {i : Nat} {s0 s1 s2 : Nat → BitVec 32} {k0 k1 k2 : Nat → BitVec 8} {n0 n1 n2 : Int} {b0 b1 b2 : List Byte} (hi : i < script.length) (h60 : i < 60) (j0 : HJ s0 k0 n0 b0 (i * 1048576)) (j1 : HJ s1 k1 n1 b1 (i * 1048576)) (j2 : HJ s2 k2 n2 b2 (i * 1048576)) (hB : (opOf script i).2.2.2.1.length ≤ 1048576) (h1 : ¬ (opOf script i).1 = 1) (h2 : ¬ (opOf script i).1 = 2) (h3 : ¬ (opOf script i).1 = 3) (h4 : ¬ (opOf script i).1 = 4) (h5 : ¬ (opOf script i).1 = 5) (h6 : ¬ (opOf script i).1 = 6) (h7 : ¬ (opOf script i).1 = 7) (hw : lethelaw02_rest (opOf script i).2.1 3 1) (ht : lethelaw02_rest (opOf script i).2.2.1 3 0) :
   ∃ s', lethelaw02_ShaExact_l0 script true (i, s0, k0, n0, s1, k1, n1, s2, k2, n2, b0, b1, b2) (.inl s') ∧ SI s' ∧ 60 - s'.1 < 60 - i := by
 have hm : i * 1048576 ≤ 62914560 := by omega
 have hB2 : (opOf script i).2.2.2.1.length ≤ 2097152 := by omega
 have l0 := j0.2.2
 have l1 := j1.2.2
 have l2 := j2.2.2
 exact ⟨(i + 1, s0, k0, n0, s1, k1, n1, s2, k2, n2, b0, b1, b2), step_in hi h60 ⟨hi, true, s0, k0, n0, s1, k1, n1, s2, k2, n2, b0, b1, b2, ineg h1 (ineg h2 ⟨true, s0, k0, n0, s1, k1, n1, s2, k2, n2, b0, b1, b2, ⟨1, hw, 0, ht, true, 1, 0, s0, k0, n0, s1, k1, n1, s2, k2, n2, b0, b1, b2, ineg h3 (ineg h4 (ineg h5 (ineg h6 (ineg h7 (⟨rfl, rfl, rfl, rfl, rfl, rfl, rfl, rfl, rfl, rfl, rfl, rfl, rfl, rfl, rfl⟩))))), fun _ => ineg (by decide) (ipos rfl (ipos rfl (⟨rfl, rfl, rfl, rfl, rfl, rfl, rfl, rfl, rfl, rfl, rfl, rfl, rfl⟩)))⟩, rfl, rfl, rfl, rfl, rfl, rfl, rfl, rfl, rfl, rfl, rfl, rfl, rfl⟩), ipos rfl rfl⟩, ⟨by omega, (j0.up (by omega)), (j1.up (by omega)), (j2.up (by omega))⟩, by show 60 - (i + 1) < 60 - i; omega⟩
theorem st_0_1_1 {script : List SOp} {i : Nat} {s0 s1 s2 : Nat → BitVec 32} {k0 k1 k2 : Nat → BitVec 8} {n0 n1 n2 : Int} {b0 b1 b2 : List Byte} (hi : i < script.length) (h60 : i < 60) (j0 : HJ s0 k0 n0 b0 (i * 1048576)) (j1 : HJ s1 k1 n1 b1 (i * 1048576)) (j2 : HJ s2 k2 n2 b2 (i * 1048576)) (hB : (opOf script i).2.2.2.1.length ≤ 1048576) (h1 : ¬ (opOf script i).1 = 1) (h2 : ¬ (opOf script i).1 = 2) (h3 : ¬ (opOf script i).1 = 3) (h4 : ¬ (opOf script i).1 = 4) (h5 : ¬ (opOf script i).1 = 5) (h6 : ¬ (opOf script i).1 = 6) (h7 : ¬ (opOf script i).1 = 7) (hw : lethelaw02_rest (opOf script i).2.1 3 1) (ht : lethelaw02_rest (opOf script i).2.2.1 3 1) :
   ∃ s', lethelaw02_ShaExact_l0 script true (i, s0, k0, n0, s1, k1, n1, s2, k2, n2, b0, b1, b2) (.inl s') ∧ SI s' ∧ 60 - s'.1 < 60 - i := by
 have hm : i * 1048576 ≤ 62914560 := by omega
 have hB2 : (opOf script i).2.2.2.1.length ≤ 2097152 := by omega
 have l0 := j0.2.2
 have l1 := j1.2.2
 have l2 := j2.2.2
 exact ⟨(i + 1, s0, k0, n0, s1, k1, n1, s2, k2, n2, b0, b1, b2), step_in hi h60 ⟨hi, true, s0, k0, n0, s1, k1, n1, s2, k2, n2, b0, b1, b2, ineg h1 (ineg h2 ⟨true, s0, k0, n0, s1, k1, n1, s2, k2, n2, b0, b1, b2, ⟨1, hw, 1, ht, true, 1, 1, s0, k0, n0, s1, k1, n1, s2, k2, n2, b0, b1, b2, ineg h3 (ineg h4 (ineg h5 (ineg h6 (ineg h7 (⟨rfl, rfl, rfl, rfl, rfl, rfl, rfl, rfl, rfl, rfl, rfl, rfl, rfl, rfl, rfl⟩))))), fun _ => ineg (by decide) (ipos rfl (ineg (by decide) (ipos rfl (⟨rfl, rfl, rfl, rfl, rfl, rfl, rfl, rfl, rfl, rfl, rfl, rfl, rfl⟩))))⟩, rfl, rfl, rfl, rfl, rfl, rfl, rfl, rfl, rfl, rfl, rfl, rfl, rfl⟩), ipos rfl rfl⟩, ⟨by omega, (j0.up (by omega)), (j1.up (by omega)), (j2.up (by omega))⟩, by show 60 - (i + 1) < 60 - i; omega⟩
theorem st_0_1_2 {script : List SOp} {i : Nat} {s0 s1 s2 : Nat → BitVec 32} {k0 k1 k2 : Nat → BitVec 8} {n0 n1 n2 : Int} {b0 b1 b2 : List Byte} (hi : i < script.length) (h60 : i < 60) (j0 : HJ s0 k0 n0 b0 (i * 1048576)) (j1 : HJ s1 k1 n1 b1 (i * 1048576)) (j2 : HJ s2 k2 n2 b2 (i * 1048576)) (hB : (opOf script i).2.2.2.1.length ≤ 1048576) (h1 : ¬ (opOf script i).1 = 1) (h2 : ¬ (opOf script i).1 = 2) (h3 : ¬ (opOf script i).1 = 3) (h4 : ¬ (opOf script i).1 = 4) (h5 : ¬ (opOf script i).1 = 5) (h6 : ¬ (opOf script i).1 = 6) (h7 : ¬ (opOf script i).1 = 7) (hw : lethelaw02_rest (opOf script i).2.1 3 1) (ht : lethelaw02_rest (opOf script i).2.2.1 3 2) :
   ∃ s', lethelaw02_ShaExact_l0 script true (i, s0, k0, n0, s1, k1, n1, s2, k2, n2, b0, b1, b2) (.inl s') ∧ SI s' ∧ 60 - s'.1 < 60 - i := by
 have hm : i * 1048576 ≤ 62914560 := by omega
 have hB2 : (opOf script i).2.2.2.1.length ≤ 2097152 := by omega
 have l0 := j0.2.2
 have l1 := j1.2.2
 have l2 := j2.2.2
 exact ⟨(i + 1, s0, k0, n0, s1, k1, n1, s2, k2, n2, b0, b1, b2), step_in hi h60 ⟨hi, true, s0, k0, n0, s1, k1, n1, s2, k2, n2, b0, b1, b2, ineg h1 (ineg h2 ⟨true, s0, k0, n0, s1, k1, n1, s2, k2, n2, b0, b1, b2, ⟨1, hw, 2, ht, true, 1, 2, s0, k0, n0, s1, k1, n1, s2, k2, n2, b0, b1, b2, ineg h3 (ineg h4 (ineg h5 (ineg h6 (ineg h7 (⟨rfl, rfl, rfl, rfl, rfl, rfl, rfl, rfl, rfl, rfl, rfl, rfl, rfl, rfl, rfl⟩))))), fun _ => ineg (by decide) (ipos rfl (ineg (by decide) (ineg (by decide) ⟨rfl, ⟨rfl, rfl, rfl, rfl, rfl, rfl, rfl, rfl, rfl, rfl, rfl, rfl, rfl⟩⟩)))⟩, rfl, rfl, rfl, rfl, rfl, rfl, rfl, rfl, rfl, rfl, rfl, rfl, rfl⟩), ipos rfl rfl⟩, ⟨by omega, (j0.up (by omega)), (j1.up (by omega)), (j2.up (by omega))⟩, by show 60 - (i + 1) < 60 - i; omega⟩
theorem st_0_2_0 {script : List SOp} {i : Nat} {s0 s1 s2 : Nat → BitVec 32} {k0 k1 k2 : Nat → BitVec 8} {n0 n1 n2 : Int} {b0 b1 b2 : List Byte} (hi : i < script.length) (h60 : i < 60) (j0 : HJ s0 k0 n0 b0 (i * 1048576)) (j1 : HJ s1 k1 n1 b1 (i * 1048576)) (j2 : HJ s2 k2 n2 b2 (i * 1048576)) (hB : (opOf script i).2.2.2.1.length ≤ 1048576) (h1 : ¬ (opOf script i).1 = 1) (h2 : ¬ (opOf script i).1 = 2) (h3 : ¬ (opOf script i).1 = 3) (h4 : ¬ (opOf script i).1 = 4) (h5 : ¬ (opOf script i).1 = 5) (h6 : ¬ (opOf script i).1 = 6) (h7 : ¬ (opOf script i).1 = 7) (hw : lethelaw02_rest (opOf script i).2.1 3 2) (ht : lethelaw02_rest (opOf script i).2.2.1 3 0) :
   ∃ s', lethelaw02_ShaExact_l0 script true (i, s0, k0, n0, s1, k1, n1, s2, k2, n2, b0, b1, b2) (.inl s') ∧ SI s' ∧ 60 - s'.1 < 60 - i := by
 have hm : i * 1048576 ≤ 62914560 := by omega
 have hB2 : (opOf script i).2.2.2.1.length ≤ 2097152 := by omega
 have l0 := j0.2.2
 have l1 := j1.2.2
 have l2 := j2.2.2
 exact ⟨(i + 1, s0, k0, n0, s1, k1, n1, s2, k2, n2, b0, b1, b2), step_in hi h60 ⟨hi, true, s0, k0, n0, s1, k1, n1, s2, k2, n2, b0, b1, b2, ineg h1 (ineg h2 ⟨true, s0, k0, n0, s1, k1, n1, s2, k2, n2, b0, b1, b2, ⟨2, hw, 0, ht, true, 2, 0, s0, k0, n0, s1, k1, n1, s2, k2, n2, b0, b1, b2, ineg h3 (ineg h4 (ineg h5 (ineg h6 (ineg h7 (⟨rfl, rfl, rfl, rfl, rfl, rfl, rfl, rfl, rfl, rfl, rfl, rfl, rfl, rfl, rfl⟩))))), fun _ => ineg (by decide) (ineg (by decide) ⟨rfl, ipos rfl (⟨rfl, rfl, rfl, rfl, rfl, rfl, rfl, rfl, rfl, rfl, rfl, rfl, rfl⟩)⟩)⟩, rfl, rfl, rfl, rfl, rfl, rfl, rfl, rfl, rfl, rfl, rfl, rfl, rfl⟩), ipos rfl rfl⟩, ⟨by omega, (j0.up (by omega)), (j1.up (by omega)), (j2.up (by omega))⟩, by show 60 - (i + 1) < 60 - i; omega⟩
theorem st_0_2_1 {script : List SOp} {i : Nat} {s0 s1 s2 : Nat → BitVec 32} {k0 k1 k2 : Nat → BitVec 8} {n0 n1 n2 : Int} {b0 b1 b2 : List Byte} (hi : i < script.length) (h60 : i < 60) (j0 : HJ s0 k0 n0 b0 (i * 1048576)) (j1 : HJ s1 k1 n1 b1 (i * 1048576)) (j2 : HJ s2 k2 n2 b2 (i * 1048576)) (hB : (opOf script i).2.2.2.1.length ≤ 1048576) (h1 : ¬ (opOf script i).1 = 1) (h2 : ¬ (opOf script i).1 = 2) (h3 : ¬ (opOf script i).1 = 3) (h4 : ¬ (opOf script i).1 = 4) (h5 : ¬ (opOf script i).1 = 5) (h6 : ¬ (opOf script i).1 = 6) (h7 : ¬ (opOf script i).1 = 7) (hw : lethelaw02_rest (opOf script i).2.1 3 2) (ht : lethelaw02_rest (opOf script i).2.2.1 3 1) :
   ∃ s', lethelaw02_ShaExact_l0 script true (i, s0, k0, n0, s1, k1, n1, s2, k2, n2, b0, b1, b2) (.inl s') ∧ SI s' ∧ 60 - s'.1 < 60 - i := by
 have hm : i * 1048576 ≤ 62914560 := by omega
 have hB2 : (opOf script i).2.2.2.1.length ≤ 2097152 := by omega
 have l0 := j0.2.2
 have l1 := j1.2.2
 have l2 := j2.2.2
 exact ⟨(i + 1, s0, k0, n0, s1, k1, n1, s2, k2, n2, b0, b1, b2), step_in hi h60 ⟨hi, true, s0, k0, n0, s1, k1, n1, s2, k2, n2, b0, b1, b2, ineg h1 (ineg h2 ⟨true, s0, k0, n0, s1, k1, n1, s2, k2, n2, b0, b1, b2, ⟨2, hw, 1, ht, true, 2, 1, s0, k0, n0, s1, k1, n1, s2, k2, n2, b0, b1, b2, ineg h3 (ineg h4 (ineg h5 (ineg h6 (ineg h7 (⟨rfl, rfl, rfl, rfl, rfl, rfl, rfl, rfl, rfl, rfl, rfl, rfl, rfl, rfl, rfl⟩))))), fun _ => ineg (by decide) (ineg (by decide) ⟨rfl, ineg (by decide) (ipos rfl (⟨rfl, rfl, rfl, rfl, rfl, rfl, rfl, rfl, rfl, rfl, rfl, rfl, rfl⟩))⟩)⟩, rfl, rfl, rfl, rfl, rfl, rfl, rfl, rfl, rfl, rfl, rfl, rfl, rfl⟩), ipos rfl rfl⟩, ⟨by omega, (j0.up (by omega)), (j1.up (by omega)), (j2.up (by omega))⟩, by show 60 - (i + 1) < 60 - i; omega⟩
theorem st_0_2_2 {script : List SOp} {i : Nat} {s0 s1 s2 : Nat → BitVec 32} {k0 k1 k2 : Nat → BitVec 8} {n0 n1 n2 : Int} {b0 b1 b2 : List Byte} (hi : i < script.length) (h60 : i < 60) (j0 : HJ s0 k0 n0 b0 (i * 1048576)) (j1 : HJ s1 k1 n1 b1 (i * 1048576)) (j2 : HJ s2 k2 n2 b2 (i * 1048576)) (hB : (opOf script i).2.2.2.1.length ≤ 1048576) (h1 : ¬ (opOf script i).1 = 1) (h2 : ¬ (opOf script i).1 = 2) (h3 : ¬ (opOf script i).1 = 3) (h4 : ¬ (opOf script i).1 = 4) (h5 : ¬ (opOf script i).1 = 5) (h6 : ¬ (opOf script i).1 = 6) (h7 : ¬ (opOf script i).1 = 7) (hw : lethelaw02_rest (opOf script i).2.1 3 2) (ht : lethelaw02_rest (opOf script i).2.2.1 3 2) :
   ∃ s', lethelaw02_ShaExact_l0 script true (i, s0, k0, n0, s1, k1, n1, s2, k2, n2, b0, b1, b2) (.inl s') ∧ SI s' ∧ 60 - s'.1 < 60 - i := by
 have hm : i * 1048576 ≤ 62914560 := by omega
 have hB2 : (opOf script i).2.2.2.1.length ≤ 2097152 := by omega
 have l0 := j0.2.2
 have l1 := j1.2.2
 have l2 := j2.2.2
 exact ⟨(i + 1, s0, k0, n0, s1, k1, n1, s2, k2, n2, b0, b1, b2), step_in hi h60 ⟨hi, true, s0, k0, n0, s1, k1, n1, s2, k2, n2, b0, b1, b2, ineg h1 (ineg h2 ⟨true, s0, k0, n0, s1, k1, n1, s2, k2, n2, b0, b1, b2, ⟨2, hw, 2, ht, true, 2, 2, s0, k0, n0, s1, k1, n1, s2, k2, n2, b0, b1, b2, ineg h3 (ineg h4 (ineg h5 (ineg h6 (ineg h7 (⟨rfl, rfl, rfl, rfl, rfl, rfl, rfl, rfl, rfl, rfl, rfl, rfl, rfl, rfl, rfl⟩))))), fun _ => ineg (by decide) (ineg (by decide) ⟨rfl, ineg (by decide) (ineg (by decide) ⟨rfl, ⟨rfl, rfl, rfl, rfl, rfl, rfl, rfl, rfl, rfl, rfl, rfl, rfl, rfl⟩⟩)⟩)⟩, rfl, rfl, rfl, rfl, rfl, rfl, rfl, rfl, rfl, rfl, rfl, rfl, rfl⟩), ipos rfl rfl⟩, ⟨by omega, (j0.up (by omega)), (j1.up (by omega)), (j2.up (by omega))⟩, by show 60 - (i + 1) < 60 - i; omega⟩
theorem seg_one (B C : List Byte) : seg ((([] : List Byte) ++ (([] ++ B) ++ C)) ++ ([209#8, 210#8, 211#8] : List Byte)) 0 B.length = B := by
 unfold seg; simp
theorem seg_two (B C : List Byte) : seg ((([] : List Byte) ++ (([] ++ B) ++ C)) ++ ([209#8, 210#8, 211#8] : List Byte)) B.length (B.length + C.length) = C := by
 unfold seg
 rw [List.nil_append, List.nil_append, List.take_left' (by rw [List.length_append]), List.drop_left]
theorem z1 {B : List Byte} (h : B.length ≤ 1048576) : 0 + B.length ≤ 140737488355328 := by omega
theorem z2 {B C : List Byte} (h : B.length ≤ 1048576) (h' : C.length ≤ 1048576) : (([] : List Byte) ++ B).length + C.length ≤ 140737488355328 := by rw [List.nil_append]; omega
theorem z3 {B C : List Byte} (h : B.length ≤ 1048576) (h' : C.length ≤ 1048576) : ((([] : List Byte) ++ B) ++ C).length + B.length ≤ 140737488355328 := by rw [List.nil_append, List.length_append]; omega
theorem z3' {B C : List Byte} (h : B.length ≤ 1048576) (h' : C.length ≤ 1048576) : ((([] : List Byte) ++ B) ++ C).length ≤ 2097152 := by rw [List.nil_append, List.length_append]; omega
theorem z3s {B C : List Byte} (h : B.length ≤ 1048576) (h' : C.length ≤ 1048576) : (((([] : List Byte) ++ B) ++ C) ++ B).length < 70368744177664 := by rw [List.nil_append, List.length_append, List.length_append]; omega
theorem z4 (B C : List Byte) : B.length ≤ ((([] : List Byte) ++ (([] ++ B) ++ C)) ++ ([209#8, 210#8, 211#8] : List Byte)).length := by rw [List.nil_append, List.nil_append, List.length_append, List.length_append]; omega
theorem z5 {B C : List Byte} (h : B.length ≤ 1048576) (h' : C.length ≤ 1048576) : B.length + C.length < 9223372036854775808 := by omega
theorem z6 (B C : List Byte) : B.length ≤ B.length + C.length ∧ B.length + C.length ≤ ((([] : List Byte) ++ (([] ++ B) ++ C)) ++ ([209#8, 210#8, 211#8] : List Byte)).length := by rw [List.nil_append, List.nil_append, List.length_append, List.length_append]; omega
theorem z7 {B C X Y Z : List Byte} (hX : X = B) (hY : Y = C) (hZ : Z = B) (h : B.length ≤ 1048576) (h' : C.length ≤ 1048576) : sha_Sum ([X, Y, Z] : List (List Byte)) (shaL (((([] : List Byte) ++ B) ++ C) ++ B)) := by
 subst hX hY hZ
 have h := sum_ok (P := [Z, Y, Z]) (by (show 3 < _; decide)) (by simp only [List.flatten_cons, List.flatten_nil, List.length_append, List.append_nil]; omega)
 simpa using h
theorem st_1 {script : List SOp} {i : Nat} {s0 s1 s2 : Nat → BitVec 32} {k0 k1 k2 : Nat → BitVec 8} {n0 n1 n2 : Int} {b0 b1 b2 : List Byte} (hi : i < script.length) (h60 : i < 60) (j0 : HJ s0 k0 n0 b0 (i * 1048576)) (j1 : HJ s1 k1 n1 b1 (i * 1048576)) (j2 : HJ s2 k2 n2 b2 (i * 1048576)) (hB : (opOf script i).2.2.2.1.length ≤ 1048576) (hC : (opOf script i).2.2.2.2.1.length ≤ 1048576) (g1 : (opOf script i).1 = 1) : ∃ s', lethelaw02_ShaExact_l0 script true (i, s0, k0, n0, s1, k1, n1, s2, k2, n2, b0, b1, b2) (.inl s') ∧ SI s' ∧ 60 - s'.1 < 60 - i := by
 have hm : i * 1048576 ≤ 62914560 := by omega
 exact ⟨(i + 1, s0, k0, n0, s1, k1, n1, s2, k2, n2, b0, b1, b2), step_in hi h60 ⟨hi, true, s0, k0, n0, s1, k1, n1, s2, k2, n2, b0, b1, b2, ipos g1 ⟨z1 hB, z2 hB hC, z3 hB hC, z1 hB, z2 hB hC, _, room_ok (z3' hB hC), ⟨Nat.zero_le _, z4 _ _⟩, z5 hB hC, z6 _ _, ⟨Nat.zero_le _, z4 _ _⟩, _, z7 (seg_one _ _) (seg_two _ _) (seg_one _ _) hB hC, _, refsum_ok (z3s hB hC), ipos (eqB_self _ _) ⟨z1 hB, z2 hB hC, true, kept_ok (z3' hB hC), rfl, rfl, rfl, rfl, rfl, rfl, rfl, rfl, rfl, rfl, rfl, rfl, rfl⟩⟩, ipos rfl rfl⟩, ⟨by omega, (j0.up (by omega)), (j1.up (by omega)), (j2.up (by omega))⟩, by show 60 - (i + 1) < 60 - i; omega⟩
theorem st_2 {script : List SOp} {i : Nat} {s0 s1 s2 : Nat → BitVec 32} {k0 k1 k2 : Nat → BitVec 8} {n0 n1 n2 : Int} {b0 b1 b2 : List Byte} (hi : i < script.length) (h60 : i < 60) (j0 : HJ s0 k0 n0 b0 (i * 1048576)) (j1 : HJ s1 k1 n1 b1 (i * 1048576)) (j2 : HJ s2 k2 n2 b2 (i * 1048576)) (hB : (opOf script i).2.2.2.1.length ≤ 1048576) (h1 : ¬ (opOf script i).1 = 1) (g2 : (opOf script i).1 = 2) : ∃ s', lethelaw02_ShaExact_l0 script true (i, s0, k0, n0, s1, k1, n1, s2, k2, n2, b0, b1, b2) (.inl s') ∧ SI s' ∧ 60 - s'.1 < 60 - i := by
 have hm : i * 1048576 ≤ 62914560 := by omega
 exact ⟨(i + 1, s0, k0, n0, s1, k1, n1, s2, k2, n2, b0, b1, b2), step_in hi h60 ⟨hi, true, s0, k0, n0, s1, k1, n1, s2, k2, n2, b0, b1, b2, ineg h1 (ipos g2 ⟨_, comp_ok _ _, _, block_ok _ _, (eqB_self _ _).symm, rfl, rfl, rfl, rfl, rfl, rfl, rfl, rfl, rfl, rfl, rfl, rfl⟩), ipos rfl rfl⟩, ⟨by omega, (j0.up (by omega)), (j1.up (by omega)), (j2.up (by omega))⟩, by show 60 - (i + 1) < 60 - i; omega⟩
theorem step_all {script : List SOp} {i : Nat} {s0 s1 s2 : Nat → BitVec 32} {k0 k1 k2 : Nat → BitVec 8} {n0 n1 n2 : Int} {b0 b1 b2 : List Byte} (hi : i < script.length) (h60 : i < 60) (j0 : HJ s0 k0 n0 b0 (i * 1048576)) (j1 : HJ s1 k1 n1 b1 (i * 1048576)) (j2 : HJ s2 k2 n2 b2 (i * 1048576)) (hB : (opOf script i).2.2.2.1.length ≤ 1048576) (hC : (opOf script i).2.2.2.2.1.length ≤ 1048576) : ∃ s', lethelaw02_ShaExact_l0 script true (i, s0, k0, n0, s1, k1, n1, s2, k2, n2, b0, b1, b2) (.inl s') ∧ SI s' ∧ 60 - s'.1 < 60 - i := by
 by_cases h1 : (opOf script i).1 = 1
 · exact st_1 hi h60 j0 j1 j2 hB hC h1
 by_cases h2 : (opOf script i).1 = 2
 · exact st_2 hi h60 j0 j1 j2 hB h1 h2
 rcases rest3 (opOf script i).2.1 with hw | hw | hw <;> rcases rest3 (opOf script i).2.2.1 with ht | ht | ht
 · by_cases h3 : (opOf script i).1 = 3
   · exact st_3_0_0 hi h60 j0 j1 j2 hB h1 h2 h3 hw ht
   by_cases h4 : (opOf script i).1 = 4
   · exact st_4_0_0 hi h60 j0 j1 j2 hB h1 h2 h3 h4 hw ht
   by_cases h5 : (opOf script i).1 = 5
   · exact st_5_0_0 hi h60 j0 j1 j2 hB h1 h2 h3 h4 h5 hw ht
   by_cases h6 : (opOf script i).1 = 6
   · exact st_6_0_0 hi h60 j0 j1 j2 hB h1 h2 h3 h4 h5 h6 hw ht
   by_cases h7 : (opOf script i).1 = 7
   · exact st_7_0_0 hi h60 j0 j1 j2 hB h1 h2 h3 h4 h5 h6 h7 hw ht
   exact st_0_0_0 hi h60 j0 j1 j2 hB h1 h2 h3 h4 h5 h6 h7 hw ht
 · by_cases h3 : (opOf script i).1 = 3
   · exact st_3_0_1 hi h60 j0 j1 j2 hB h1 h2 h3 hw ht
   by_cases h4 : (opOf script i).1 = 4
   · exact st_4_0_1 hi h60 j0 j1 j2 hB h1 h2 h3 h4 hw ht
   by_cases h5 : (opOf script i).1 = 5
   · exact st_5_0_1 hi h60 j0 j1 j2 hB h1 h2 h3 h4 h5 hw ht
   by_cases h6 : (opOf script i).1 = 6
   · exact st_6_0_1 hi h60 j0 j1 j2 hB h1 h2 h3 h4 h5 h6 hw ht
   by_cases h7 : (opOf script i).1 = 7
   · exact st_7_0_1 hi h60 j0 j1 j2 hB h1 h2 h3 h4 h5 h6 h7 hw ht
   exact st_0_0_1 hi h60 j0 j1 j2 hB h1 h2 h3 h4 h5 h6 h7 hw ht
 · by_cases h3 : (opOf script i).1 = 3
   · exact st_3_0_2 hi h60 j0 j1 j2 hB h1 h2 h3 hw ht
   by_cases h4 : (opOf script i).1 = 4
   · exact st_4_0_2 hi h60 j0 j1 j2 hB h1 h2 h3 h4 hw ht
   by_cases h5 : (opOf script i).1 = 5
   · exact st_5_0_2 hi h60 j0 j1 j2 hB h1 h2 h3 h4 h5 hw ht
   by_cases h6 : (opOf script i).1 = 6
   · exact st_6_0_2 hi h60 j0 j1 j2 hB h1 h2 h3 h4 h5 h6 hw ht
   by_cases h7 : (opOf script i).1 = 7
   · exact st_7_0_2 hi h60 j0 j1 j2 hB h1 h2 h3 h4 h5 h6 h7 hw ht
   exact st_0_0_2 hi h60 j0 j1 j2 hB h1 h2 h3 h4 h5 h6 h7 hw ht
 · by_cases h3 : (opOf script i).1 = 3
   · exact st_3_1_0 hi h60 j0 j1 j2 hB h1 h2 h3 hw ht
   by_cases h4 : (opOf script i).1 = 4
   · exact st_4_1_0 hi h60 j0 j1 j2 hB h1 h2 h3 h4 hw ht
   by_cases h5 : (opOf script i).1 = 5
   · exact st_5_1_0 hi h60 j0 j1 j2 hB h1 h2 h3 h4 h5 hw ht
   by_cases h6 : (opOf script i).1 = 6
   · exact st_6_1_0 hi h60 j0 j1 j2 hB h1 h2 h3 h4 h5 h6 hw ht
   by_cases h7 : (opOf script i).1 = 7
   · exact st_7_1_0 hi h60 j0 j1 j2 hB h1 h2 h3 h4 h5 h6 h7 hw ht
   exact st_0_1_0 hi h60 j0 j1 j2 hB h1 h2 h3 h4 h5 h6 h7 hw ht
 · by_cases h3 : (opOf script i).1 = 3
   · exact st_3_1_1 hi h60 j0 j1 j2 hB h1 h2 h3 hw ht
   by_cases h4 : (opOf script i).1 = 4
   · exact st_4_1_1 hi h60 j0 j1 j2 hB h1 h2 h3 h4 hw ht
   by_cases h5 : (opOf script i).1 = 5
   · exact st_5_1_1 hi h60 j0 j1 j2 hB h1 h2 h3 h4 h5 hw ht
   by_cases h6 : (opOf script i).1 = 6
   · exact st_6_1_1 hi h60 j0 j1 j2 hB h1 h2 h3 h4 h5 h6 hw ht
   by_cases h7 : (opOf script i).1 = 7
   · exact st_7_1_1 hi h60 j0 j1 j2 hB h1 h2 h3 h4 h5 h6 h7 hw ht
   exact st_0_1_1 hi h60 j0 j1 j2 hB h1 h2 h3 h4 h5 h6 h7 hw ht
 · by_cases h3 : (opOf script i).1 = 3
   · exact st_3_1_2 hi h60 j0 j1 j2 hB h1 h2 h3 hw ht
   by_cases h4 : (opOf script i).1 = 4
   · exact st_4_1_2 hi h60 j0 j1 j2 hB h1 h2 h3 h4 hw ht
   by_cases h5 : (opOf script i).1 = 5
   · exact st_5_1_2 hi h60 j0 j1 j2 hB h1 h2 h3 h4 h5 hw ht
   by_cases h6 : (opOf script i).1 = 6
   · exact st_6_1_2 hi h60 j0 j1 j2 hB h1 h2 h3 h4 h5 h6 hw ht
   by_cases h7 : (opOf script i).1 = 7
   · exact st_7_1_2 hi h60 j0 j1 j2 hB h1 h2 h3 h4 h5 h6 h7 hw ht
   exact st_0_1_2 hi h60 j0 j1 j2 hB h1 h2 h3 h4 h5 h6 h7 hw ht
 · by_cases h3 : (opOf script i).1 = 3
   · exact st_3_2_0 hi h60 j0 j1 j2 hB h1 h2 h3 hw ht
   by_cases h4 : (opOf script i).1 = 4
   · exact st_4_2_0 hi h60 j0 j1 j2 hB h1 h2 h3 h4 hw ht
   by_cases h5 : (opOf script i).1 = 5
   · exact st_5_2_0 hi h60 j0 j1 j2 hB h1 h2 h3 h4 h5 hw ht
   by_cases h6 : (opOf script i).1 = 6
   · exact st_6_2_0 hi h60 j0 j1 j2 hB h1 h2 h3 h4 h5 h6 hw ht
   by_cases h7 : (opOf script i).1 = 7
   · exact st_7_2_0 hi h60 j0 j1 j2 hB h1 h2 h3 h4 h5 h6 h7 hw ht
   exact st_0_2_0 hi h60 j0 j1 j2 hB h1 h2 h3 h4 h5 h6 h7 hw ht
 · by_cases h3 : (opOf script i).1 = 3
   · exact st_3_2_1 hi h60 j0 j1 j2 hB h1 h2 h3 hw ht
   by_cases h4 : (opOf script i).1 = 4
   · exact st_4_2_1 hi h60 j0 j1 j2 hB h1 h2 h3 h4 hw ht
   by_cases h5 : (opOf script i).1 = 5
   · exact st_5_2_1 hi h60 j0 j1 j2 hB h1 h2 h3 h4 h5 hw ht
   by_cases h6 : (opOf script i).1 = 6
   · exact st_6_2_1 hi h60 j0 j1 j2 hB h1 h2 h3 h4 h5 h6 hw ht
   by_cases h7 : (opOf script i).1 = 7
   · exact st_7_2_1 hi h60 j0 j1 j2 hB h1 h2 h3 h4 h5 h6 h7 hw ht
   exact st_0_2_1 hi h60 j0 j1 j2 hB h1 h2 h3 h4 h5 h6 h7 hw ht
 · by_cases h3 : (opOf script i).1 = 3
   · exact st_3_2_2 hi h60 j0 j1 j2 hB h1 h2 h3 hw ht
   by_cases h4 : (opOf script i).1 = 4
   · exact st_4_2_2 hi h60 j0 j1 j2 hB h1 h2 h3 h4 hw ht
   by_cases h5 : (opOf script i).1 = 5
   · exact st_5_2_2 hi h60 j0 j1 j2 hB h1 h2 h3 h4 h5 hw ht
   by_cases h6 : (opOf script i).1 = 6
   · exact st_6_2_2 hi h60 j0 j1 j2 hB h1 h2 h3 h4 h5 h6 hw ht
   by_cases h7 : (opOf script i).1 = 7
   · exact st_7_2_2 hi h60 j0 j1 j2 hB h1 h2 h3 h4 h5 h6 h7 hw ht
   exact st_0_2_2 hi h60 j0 j1 j2 hB h1 h2 h3 h4 h5 h6 h7 hw ht
theorem shaExact_true (script : List SOp) (hQ : ∀ (j : Nat) x, script[j]? = some x → x.2.2.2.1.length ≤ 1048576 ∧ x.2.2.2.2.1.length ≤ 1048576) : lethelaw02_ShaExact script true := by
 obtain ⟨x, hI, s0, k0, n0, s1, k1, n1, s2, k2, n2, b0, b1, b2, rfl, j0, j1, j2⟩ := iter_go (step := lethelaw02_ShaExact_l0 script true) SI
   (fun x => ∃ s0 k0 n0 s1 k1 n1 s2 k2 n2 b0 b1 b2, x = some (s0, k0, n0, s1, k1, n1, s2, k2, n2, b0, b1, b2) ∧ HJ s0 k0 n0 b0 62914560 ∧ HJ s1 k1 n1 b1 62914560 ∧ HJ s2 k2 n2 b2 62914560) (fun s => 60 - s.1) (by
   rintro ⟨i, s0, k0, n0, s1, k1, n1, s2, k2, n2, b0, b1, b2⟩ ⟨hi60, j0, j1, j2⟩
   by_cases hi : i < script.length
   · by_cases h60 : i < 60
     · have := opOf_ok hQ hi
       exact .inr (step_all hi h60 j0 j1 j2 this.1 this.2)
     · exact .inl ⟨_, ipos hi (ineg h60 rfl), _, _, _, _, _, _, _, _, _, _, _, _, rfl, j0.up (by omega), j1.up (by omega), j2.up (by omega)⟩
   · exact .inl ⟨_, ineg hi rfl, _, _, _, _, _, _, _, _, _, _, _, _, rfl, j0.up (by omega), j1.up (by omega), j2.up (by omega)⟩) 61
   (0, H256, (fun _ => 0#8), ((0 : Nat) : Int), H256, (fun _ => 0#8), ((0 : Nat) : Int), H256, (fun _ => 0#8), ((0 : Nat) : Int), [], [], []) (by decide) ⟨by decide, HJ.new, HJ.new, HJ.new⟩
 refine ⟨true, moves_ok, ipos rfl ⟨_, _, _, rfl, _, _, _, rfl, _, _, _, rfl, _, hI, ?_⟩⟩
 intro _ _ _ _ _ _ _ _ _ _ _ _ he
 cases he
 have r0 : lethelaw02_rest 0 3 0 := by unfold lethelaw02_rest; decide
 have r1 : lethelaw02_rest 1 3 1 := by unfold lethelaw02_rest; decide
 have r2 : lethelaw02_rest 2 3 2 := by unfold lethelaw02_rest; decide
 refine ⟨true, ⟨0, r0, 0, r0, ipos rfl (j0.ask (fun d => ⟨_, rfl, ipos j0.2.1 ⟨_, d.1, _, d.2, (eqB_self _ _).symm⟩⟩) (Nat.le_refl _))⟩, ipos rfl ?_⟩
 refine ⟨true, ⟨1, r1, 0, r0, ineg (by decide) (ipos rfl (j1.ask (fun d => ⟨_, rfl, ipos j1.2.1 ⟨_, d.1, _, d.2, (eqB_self _ _).symm⟩⟩) (Nat.le_refl _)))⟩, ipos rfl ?_⟩
 exact ⟨true, ⟨2, r2, 0, r0, ineg (by decide) (ineg (by decide) ⟨rfl, j2.ask (fun d => ⟨_, rfl, ipos j2.2.1 ⟨_, d.1, _, d.2, (eqB_self _ _).symm⟩⟩) (Nat.le_refl _)⟩)⟩, rfl⟩
end Go.Proofs.YtjdgbahjpdopbaaDoor
