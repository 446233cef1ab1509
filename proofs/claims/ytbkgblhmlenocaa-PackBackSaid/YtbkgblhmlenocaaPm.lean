import Derived.Test.YtbkgblhmlenocaaRPack
import Derived.Test.YtbkgblhmlenocaaRLaw11

/-
  PLAIN (own work): records in order: what pack's functions and the law's own ones compute.
-/
namespace Go.Proofs.Ytbkgblhmlenocaa
set_option linter.unusedSimpArgs false
set_option linter.unusedVariables false
set_option linter.unusedSectionVars false
open Go Go.LW

theorem ipos {c : Prop} [Decidable c] {t e : Prop} (h : c) (x : t) : if c then t else e := (if_pos h).symm ▸ x
theorem ineg {c : Prop} [Decidable c] {t e : Prop} (h : ¬ c) (x : e) : if c then t else e := (if_neg h).symm ▸ x
theorem iter_go {S X : Type} {step : S → S ⊕ X → Prop} (J : S → Prop) (Q : X → Prop) (μ : S → Nat)
    (h : ∀ s, J s → (∃ x, step s (.inr x) ∧ Q x) ∨ ∃ s', step s (.inl s') ∧ J s' ∧ μ s' < μ s) : ∀ n s, μ s < n → J s → ∃ x, Iter step s x ∧ Q x
  | 0, s, hn, _ => absurd hn (Nat.not_lt_zero _)
  | n + 1, s, hn, hJ => by
    rcases h s hJ with ⟨x, hx, hQ⟩ | ⟨s', hs, hJ', hm⟩
    · exact ⟨x, .done hx, hQ⟩
    · obtain ⟨x, hx, hQ⟩ := iter_go J Q μ h n s' (by omega) hJ'
      exact ⟨x, .more hs hx, hQ⟩
abbrev Rec := Int × (List Byte) × (List Byte)
abbrev zR : Rec := ((0 : Int), ([] : List Byte), ([] : List Byte))

/-! ### bytes in order -/
theorem cmpI_anti : ∀ X Y : List Byte, cmpI Y X = -cmpI X Y
  | [], [] => rfl
  | [], _ :: _ => rfl
  | _ :: _, [] => rfl
  | a :: X, b :: Y => by
    rw [cmpI, cmpI, cmpI_anti X Y]
    by_cases h1 : a.toNat < b.toNat
    · rw [if_neg (by omega), if_pos h1, if_pos h1]; rfl
    · by_cases h2 : b.toNat < a.toNat
      · rw [if_pos h2, if_neg h1, if_pos h2]
      · rw [if_neg h2, if_neg h1, if_neg h1, if_neg h2]
theorem cmpI_zero : ∀ X Y : List Byte, cmpI X Y = 0 ↔ X = Y
  | [], [] => by simp [cmpI]
  | [], _ :: _ => by simp [cmpI]
  | _ :: _, [] => by simp [cmpI]
  | a :: X, b :: Y => by
    rw [cmpI, List.cons.injEq, ← cmpI_zero X Y]
    by_cases h1 : a.toNat < b.toNat
    · rw [if_pos h1]
      constructor
      · intro h; omega
      · rintro ⟨rfl, _⟩; omega
    · by_cases h2 : b.toNat < a.toNat
      · rw [if_neg h1, if_pos h2]
        constructor
        · intro h; omega
        · rintro ⟨rfl, _⟩; omega
      · rw [if_neg h1, if_neg h2]
        have : a = b := BitVec.eq_of_toNat_eq (by omega)
        simp [this]
theorem cmpI_three : ∀ X Y : List Byte, cmpI X Y = -1 ∨ cmpI X Y = 0 ∨ cmpI X Y = 1
  | [], [] => .inr (.inl rfl)
  | [], _ :: _ => .inl rfl
  | _ :: _, [] => .inr (.inr rfl)
  | a :: X, b :: Y => by
    rw [cmpI]
    by_cases h1 : a.toNat < b.toNat
    · rw [if_pos h1]; exact .inl rfl
    · by_cases h2 : b.toNat < a.toNat
      · rw [if_neg h1, if_pos h2]; exact .inr (.inr rfl)
      · rw [if_neg h1, if_neg h2]; exact cmpI_three X Y
theorem cmpI_trans : ∀ X Y Z : List Byte, cmpI X Y < 0 → cmpI Y Z < 0 → cmpI X Z < 0
  | [], [], _, h, _ => by simp [cmpI] at h
  | [], _ :: _, [], _, h => by simp [cmpI] at h
  | [], _ :: _, _ :: _, _, _ => by simp [cmpI]
  | _ :: _, [], _, h, _ => by simp [cmpI] at h
  | _ :: _, _ :: _, [], _, h => by simp [cmpI] at h
  | a :: X, b :: Y, c :: Z, h, h' => by
    rw [cmpI] at h h' ⊢
    by_cases h1 : a.toNat < b.toNat
    · by_cases h3 : b.toNat < c.toNat
      · rw [if_pos (by omega)]; decide
      · rw [if_neg h3] at h'
        by_cases h4 : c.toNat < b.toNat
        · rw [if_pos h4] at h'; omega
        · rw [if_pos (by omega)]; decide
    · rw [if_neg h1] at h
      by_cases h2 : b.toNat < a.toNat
      · rw [if_pos h2] at h; omega
      · rw [if_neg h2] at h
        by_cases h3 : b.toNat < c.toNat
        · rw [if_pos (by omega)]; decide
        · rw [if_neg h3] at h'
          by_cases h4 : c.toNat < b.toNat
          · rw [if_pos h4] at h'; omega
          · rw [if_neg h4] at h'
            rw [if_neg (by omega), if_neg (by omega)]
            exact cmpI_trans X Y Z h h'
theorem ltL_cmp : ∀ X Y : List Byte, ltL X Y = decide (cmpI X Y < 0)
  | [], [] => rfl
  | [], _ :: _ => rfl
  | _ :: _, [] => rfl
  | a :: X, b :: Y => by
    rw [ltL, cmpI, ltL_cmp X Y]
    by_cases h1 : a.toNat < b.toNat
    · rw [if_pos h1, if_pos h1]; rfl
    · by_cases h2 : b.toNat < a.toNat
      · rw [if_neg h1, if_pos h2, if_neg h1, if_pos h2]; rfl
      · rw [if_neg h1, if_neg h2, if_neg h1, if_neg h2]

/-! ### records in order -/
def cmpR (a b : Rec) : Int := if a.1 < b.1 then -1 else if b.1 < a.1 then 1 else cmpI a.2.1 b.2.1
theorem cmpR_anti (a b : Rec) : cmpR b a = -cmpR a b := by
  unfold cmpR
  rw [cmpI_anti]
  by_cases h1 : a.1 < b.1
  · rw [if_neg (by omega), if_pos h1, if_pos h1]; rfl
  · by_cases h2 : b.1 < a.1
    · rw [if_pos h2, if_neg h1, if_pos h2]
    · rw [if_neg h2, if_neg h1, if_neg h1, if_neg h2]
theorem cmpR_three (a b : Rec) : cmpR a b = -1 ∨ cmpR a b = 0 ∨ cmpR a b = 1 := by
  unfold cmpR
  by_cases h1 : a.1 < b.1
  · rw [if_pos h1]; exact .inl rfl
  · by_cases h2 : b.1 < a.1
    · rw [if_neg h1, if_pos h2]; exact .inr (.inr rfl)
    · rw [if_neg h1, if_neg h2]; exact cmpI_three _ _
theorem cmpR_zero (a b : Rec) : cmpR a b = 0 ↔ a.1 = b.1 ∧ a.2.1 = b.2.1 := by
  unfold cmpR
  by_cases h1 : a.1 < b.1
  · rw [if_pos h1]; constructor <;> intro h <;> omega
  · by_cases h2 : b.1 < a.1
    · rw [if_neg h1, if_pos h2]; constructor <;> intro h <;> omega
    · rw [if_neg h1, if_neg h2, cmpI_zero]
      exact ⟨fun h => ⟨by omega, h⟩, fun h => h.2⟩
theorem cmpR_self (a : Rec) : cmpR a a = 0 := (cmpR_zero a a).2 ⟨rfl, rfl⟩
theorem cmpR_trans {a b c : Rec} (h : cmpR a b < 0) (h' : cmpR b c < 0) : cmpR a c < 0 := by
  unfold cmpR at h h' ⊢
  by_cases h1 : a.1 < b.1
  · by_cases h2 : b.1 < c.1
    · rw [if_pos (by omega)]; decide
    · rw [if_neg h2] at h'
      by_cases h3 : c.1 < b.1
      · rw [if_pos h3] at h'; omega
      · rw [if_pos (by omega)]; decide
  · rw [if_neg h1] at h
    by_cases h2 : b.1 < a.1
    · rw [if_pos h2] at h; omega
    · rw [if_neg h2] at h
      by_cases h3 : b.1 < c.1
      · rw [if_pos (by omega)]; decide
      · rw [if_neg h3] at h'
        by_cases h4 : c.1 < b.1
        · rw [if_pos h4] at h'; omega
        · rw [if_neg h4] at h'
          rw [if_neg (by omega), if_neg (by omega)]
          exact cmpI_trans _ _ _ h h'
/-- equal places: compared alike with all -/
theorem cmpR_eq {a b : Rec} (h : cmpR a b = 0) (c : Rec) : cmpR a c = cmpR b c := by
  obtain ⟨h1, h2⟩ := (cmpR_zero a b).1 h
  unfold cmpR; rw [h1, h2]
theorem cmpR_eq' {a b : Rec} (h : cmpR a b = 0) (c : Rec) : cmpR c a = cmpR c b := by
  obtain ⟨h1, h2⟩ := (cmpR_zero a b).1 h
  unfold cmpR; rw [h1, h2]
theorem cmpInt_ok (a b : Int) : cmp_Compare_int a b (if a < b then -1 else if b < a then 1 else 0) := by
  refine ⟨false, by unfold cmp_isNaN_int; simp, false, by unfold cmp_isNaN_int; simp, ?_⟩
  rw [if_neg (by decide), if_neg (by decide)]
  by_cases h1 : a < b
  · rw [if_pos h1, if_pos h1]
  · by_cases h2 : b < a
    · rw [if_neg h1, if_pos h2, if_neg h1, if_pos h2]
    · rw [if_neg h1, if_neg h2, if_neg h1, if_neg h2]
theorem cmpOr_ok (a b : Int) : cmp_Or_int ([a, b] : List Int) (if a ≠ 0 then a else b) := by
  have l0 : 0 < ([a, b] : List Int).length := Nat.succ_pos _
  have l1 : 1 < ([a, b] : List Int).length := Nat.lt_succ_self _
  have l2 : ¬ 2 < ([a, b] : List Int).length := Nat.lt_irrefl _
  by_cases h1 : a ≠ 0
  · refine ⟨none, .done (ipos l0 ⟨l0, ipos h1 ⟨rfl, by rw [if_pos h1]; rfl⟩⟩), fun h => by cases h⟩
  · by_cases h2 : b ≠ 0
    · refine ⟨none, .more (s' := 1) (ipos l0 ⟨l0, ineg h1 ⟨by decide, rfl⟩⟩) (.done (ipos l1 ⟨l1, ipos h2 ⟨rfl, by rw [if_neg h1]; rfl⟩⟩)), fun h => by cases h⟩
    · exact ⟨some (), .more (s' := 1) (ipos l0 ⟨l0, ineg h1 ⟨by decide, rfl⟩⟩) (.more (s' := 2) (ipos l1 ⟨l1, ineg h2 ⟨by decide, rfl⟩⟩) (.done (ineg l2 rfl))), fun _ => by rw [if_neg h1]; exact Decidable.not_not.1 h2⟩
theorem compare_ok (a b : Rec) : pack_Compare a.1 a.2.1 a.2.2 b.1 b.2.1 b.2.2 (cmpR a b) := by
  refine ⟨_, cmpInt_ok _ _, _, rfl, _, cmpOr_ok _ _, ?_⟩
  unfold cmpR
  by_cases h1 : a.1 < b.1
  · rw [if_pos h1, if_pos h1]; rfl
  · by_cases h2 : b.1 < a.1
    · rw [if_neg h1, if_pos h2, if_neg h1, if_pos h2]; rfl
    · rw [if_neg h1, if_neg h2, if_neg h1, if_neg h2]; rfl
theorem ahead_ok (a b : Rec) : lethelaw11_ahead a.1 a.2.1 a.2.2 b.1 b.2.1 b.2.2 (decide (cmpR a b < 0)) := by
  unfold lethelaw11_ahead cmpR
  by_cases h0 : a.1 ≠ b.1
  · rw [if_pos h0]
    by_cases h1 : a.1 < b.1
    · rw [if_pos h1]; simp [h1]
    · rw [if_neg h1, if_pos (by omega)]; simp [h1]
  · rw [if_neg h0, if_neg (by omega), if_neg (by omega), ltL_cmp]; simp

/-! ### sorted lists -/
def okR (r : Rec) : Prop := 0 ≤ r.1 ∧ r.1 ≤ 15 ∧ 1 ≤ r.2.1.length ∧ r.2.1.length ≤ 64 ∧ r.2.2.length ≤ 900
def Srt (l : List Rec) : Prop := (∀ r ∈ l, okR r) ∧ l.Pairwise (fun a b => cmpR a b < 0)
theorem check_ok {r : Rec} (h : okR r) : pack_Check r.1 r.2.1 r.2.2 0 := by
  obtain ⟨h1, h2, h3, h4, h5⟩ := h
  refine ⟨false, ineg (by omega) (ineg (by omega) (ineg (by omega) (ineg (by omega) ?_))), ineg (by decide) rfl⟩
  simp; omega
theorem getD_mem {l : List Rec} {i : Nat} (h : i < l.length) : l.getD i zR ∈ l := by
  rw [List.getD_eq_getElem?_getD, List.getElem?_eq_getElem h]; exact List.getElem_mem h
theorem Srt.lt {l : List Rec} (h : Srt l) {i j : Nat} (hij : i < j) (hj : j < l.length) : cmpR (l.getD i zR) (l.getD j zR) < 0 := by
  have h1 := List.pairwise_iff_getElem.1 h.2 i j (by omega) hj hij
  rw [List.getD_eq_getElem?_getD, List.getElem?_eq_getElem (by omega), List.getD_eq_getElem?_getD, List.getElem?_eq_getElem hj]
  exact h1
theorem records_ok {l : List Rec} (h : Srt l) (hl : l.length < 4611686018427387904) : pack_records l 0 := by
  refine ⟨some (), Iter.count (fun i => i) l.length (fun i hi => ?_) (ineg (by omega) rfl), fun _ => rfl⟩
  exact ipos hi ⟨hi, 0, check_ok (h.1 _ (getD_mem hi)), ineg (by decide) ⟨by omega, rfl⟩⟩
theorem sorted_ok {l : List Rec} (h : Srt l) (hl : l.length < 4611686018427387904) : pack_sorted l 0 := by
  refine ⟨0, records_ok h hl, ineg (by decide) ⟨some (), ?_, fun _ => rfl⟩⟩
  by_cases h0 : l.length = 0
  · exact .done (ineg (by omega) rfl)
  · refine Iter.count (fun i => i + 1) (l.length - 1) (fun i hi => ?_) (ineg (by omega) rfl)
    exact ipos (by omega) ⟨by omega, by omega, by omega, _, compare_ok _ _, ineg (Int.not_le.2 (h.lt (by omega) (by omega))) ⟨by omega, rfl⟩⟩

/-! ### places -/
def pos (r : Rec) : List Rec → Nat
  | [] => 0
  | x :: xs => if cmpR x r < 0 then pos r xs + 1 else 0
def fnd (r : Rec) (l : List Rec) : Bool := decide (pos r l < l.length ∧ cmpR (l.getD (pos r l) zR) r = 0)
def ins (r : Rec) : List Rec → List Rec
  | [] => [r]
  | x :: xs => if cmpR x r < 0 then x :: ins r xs else if cmpR x r = 0 then r :: xs else r :: x :: xs
def del (r : Rec) : List Rec → List Rec
  | [] => []
  | x :: xs => if cmpR x r < 0 then x :: del r xs else if cmpR x r = 0 then xs else x :: xs
theorem pos_le (r : Rec) : ∀ l, pos r l ≤ l.length
  | [] => Nat.le_refl _
  | x :: xs => by
    rw [pos]; split
    · exact Nat.succ_le_succ (pos_le r xs)
    · exact Nat.zero_le _
theorem Srt.tl {x : Rec} {xs : List Rec} (h : Srt (x :: xs)) : Srt xs := ⟨fun r hr => h.1 r (List.mem_cons_of_mem _ hr), (List.pairwise_cons.1 h.2).2⟩
theorem Srt.hd {x : Rec} {xs : List Rec} (h : Srt (x :: xs)) : ∀ y ∈ xs, cmpR x y < 0 := (List.pairwise_cons.1 h.2).1
theorem pos_lt (r : Rec) : ∀ (l : List Rec) (i : Nat), i < pos r l → cmpR (l.getD i zR) r < 0
  | [], i, h => absurd h (Nat.not_lt_zero _)
  | x :: xs, i, h => by
    rw [pos] at h
    split at h
    · rename_i hx
      cases i with
      | zero => exact hx
      | succ i => exact pos_lt r xs i (by omega)
    · omega
theorem pos_ge (r : Rec) : ∀ (l : List Rec), Srt l → ∀ i, pos r l ≤ i → i < l.length → ¬ cmpR (l.getD i zR) r < 0
  | [], _, i, _, h => absurd h (Nat.not_lt_zero _)
  | x :: xs, hs, i, h, hi => by
    rw [pos] at h
    split at h
    · cases i with
      | zero => omega
      | succ i => exact pos_ge r xs hs.tl i (by omega) (by simpa using hi)
    · rename_i hx
      cases i with
      | zero => exact hx
      | succ i =>
        intro h2
        have h3 := hs.lt (i := 0) (j := i + 1) (by omega) hi
        exact hx (cmpR_trans h3 h2)
theorem half_ok {i j : Nat} (h : i + j < 9223372036854775808) : ((BitVec.ofNat 64 (i + j)) >>> 1).toNat = (i + j) / 2 := by
  rw [BitVec.toNat_ushiftRight, BitVec.toNat_ofNat, Nat.shiftRight_eq_div_pow]; omega
theorem place_ok {l : List Rec} (hs : Srt l) (hl : l.length < 4611686018427387904) (r : Rec) : pack_place l r.1 r.2.1 r.2.2 (pos r l, fnd r l) := by
  have hp := pos_le r l
  obtain ⟨x, hI, rfl⟩ := iter_go (step := slices_BinarySearchFunc_api_Record_api_Record_api_Record__of_pack_place_1_l0 l r.1 r.2.1 r.2.2)
    (fun s => s.1 ≤ pos r l ∧ pos r l ≤ s.2 ∧ s.2 ≤ l.length) (fun x => x = pos r l) (fun s => s.2 - s.1) (by
    rintro ⟨i, j⟩ ⟨h1, h2, h3⟩
    dsimp only at h1 h2 h3
    by_cases hij : i < j
    · refine .inr ?_
      have hh : ((BitVec.ofNat 64 (i + j)) >>> 1).toNat = (i + j) / 2 := half_ok (by omega)
      by_cases hc : cmpR (l.getD ((i + j) / 2) zR) r < 0
      · refine ⟨((i + j) / 2 + 1, j), ipos hij ?_, ⟨?_, h2, h3⟩, by (show j - _ < j - i); omega⟩
        · rw [hh]; exact ⟨by omega, by omega, by omega, _, ⟨_, compare_ok _ _, rfl⟩, ipos hc ⟨by omega, rfl⟩⟩
        · show (i + j) / 2 + 1 ≤ pos r l
          rcases Nat.lt_or_ge ((i + j) / 2) (pos r l) with h | h
          · exact h
          · exact absurd hc (pos_ge r l hs _ h (by omega))
      · refine ⟨(i, (i + j) / 2), ipos hij ?_, ⟨h1, ?_, by show (i + j) / 2 ≤ _; omega⟩, by (show (i + j) / 2 - i < j - i); omega⟩
        · rw [hh]; exact ⟨by omega, by omega, by omega, _, ⟨_, compare_ok _ _, rfl⟩, ineg hc rfl⟩
        · show pos r l ≤ (i + j) / 2
          rcases Nat.lt_or_ge ((i + j) / 2) (pos r l) with h | h
          · exact absurd (pos_lt r l _ h) hc
          · exact h
    · exact .inl ⟨i, ineg hij rfl, by omega⟩) (l.length + 1) (0, l.length) (by show l.length - 0 < _; omega) ⟨Nat.zero_le _, hp, Nat.le_refl _⟩
  refine ⟨_, _, ⟨_, hI, ?_⟩, rfl⟩
  by_cases h : pos r l < l.length
  · refine ipos h ⟨h, _, ⟨_, compare_ok _ _, rfl⟩, ?_⟩
    unfold fnd
    simp only [h, true_and]
  · refine ineg h ?_
    unfold fnd
    simp only [h, false_and, decide_false]
theorem pos_key (r : Rec) (v : List Byte) : ∀ l, pos (r.1, r.2.1, v) l = pos r l
  | [] => rfl
  | x :: xs => by
    have h0 : cmpR (r.1, r.2.1, v) r = 0 := (cmpR_zero _ _).2 ⟨rfl, rfl⟩
    rw [pos, pos, pos_key r v xs, cmpR_eq' h0 x]
theorem fnd_key (r : Rec) (v : List Byte) (l : List Rec) : fnd (r.1, r.2.1, v) l = fnd r l := by
  have h0 : cmpR (r.1, r.2.1, v) r = 0 := (cmpR_zero _ _).2 ⟨rfl, rfl⟩
  unfold fnd
  rw [pos_key, cmpR_eq' h0]
theorem find_ok {l : List Rec} (hs : Srt l) (hl : l.length < 4611686018427387904) (r : Rec) : pack_Find l r.1 r.2.1 (pos r l, fnd r l) := by
  refine ⟨0, sorted_ok hs hl, ineg (by decide) ⟨_, _, ?_, rfl⟩⟩
  have h := place_ok hs hl (r.1, r.2.1, [])
  rw [pos_key, fnd_key] at h
  exact h

/-! ### lists in new memory -/
theorem join1 {X : List Byte} (h : X.length ≤ 1000000) : wire_Join ([X] : List (List Byte)) X := by
  have l0 : 0 < ([X] : List (List Byte)).length := Nat.one_pos
  have l1 : ¬ 1 < ([X] : List (List Byte)).length := Nat.lt_irrefl _
  have e1 : Iter (wire_Join_l0 [X]) (0, 0) (0 + X.length) := .more (s' := (0 + X.length, 1)) (by unfold wire_Join_l0; exact ipos l0 ⟨l0, by (show 0 + X.length < _; omega), by decide, rfl⟩) (.done (by unfold wire_Join_l0; exact ineg l1 rfl))
  have e2 : Iter (wire_Join_l1 [X]) (List.replicate 0 0#8, 0) ([] ++ X) := .more (s' := ([] ++ X, 1)) (by unfold wire_Join_l1; exact ipos l0 ⟨l0, by (show (List.replicate 0 0#8).length + X.length ≤ _; rw [List.length_replicate]; omega), by decide, rfl⟩) (.done (by unfold wire_Join_l1; exact ineg l1 rfl))
  exact ⟨_, e1, ⟨Nat.zero_le _, by omega⟩, _, e2, rfl⟩
theorem twin_ok {r : Rec} (h : okR r) : pack_twin r.1 r.2.1 r.2.2 r := by
  obtain ⟨h1, h2, h3, h4, h5⟩ := h
  exact ⟨_, join1 (by omega), _, join1 (by omega), _, join1 (by omega), _, join1 (by omega), rfl⟩
theorem take_succ' {l : List Rec} {i : Nat} (h : i < l.length) : l.take (i + 1) = l.take i ++ [l.getD i zR] := by
  rw [List.take_succ_eq_append_getElem h, List.getD_eq_getElem?_getD, List.getElem?_eq_getElem h]; rfl
theorem twins_ok {l : List Rec} (h : ∀ r ∈ l, okR r) (hl : l.length ≤ 1000000) : pack_twins l l := by
  refine ⟨l, ?_, rfl⟩
  have := Iter.count (step := pack_twins_l0 l) (x := l) (fun i => (l.take i, i)) l.length (fun i hi => ?_) (ineg (Nat.lt_irrefl _) (by rw [List.take_length]))
  · rw [List.take_zero] at this; exact this
  · have ht := take_succ' hi
    refine ipos hi ⟨hi, (l.getD i zR).1, (l.getD i zR).2.1, (l.getD i zR).2.2, twin_ok (h _ (getD_mem hi)), ?_, by omega, ?_⟩
    · rw [List.length_take]; simp only [List.length_singleton]; omega
    · rw [ht]
theorem sgl_take (l : List Rec) (k : Nat) : sgl l 0 k = l.take k := by unfold sgl; rw [List.drop_zero, Nat.sub_zero]
theorem sgl_drop (l : List Rec) (k : Nat) : sgl l k l.length = l.drop k := by unfold sgl; rw [List.take_of_length_le (by rw [List.length_drop]; exact Nat.le_refl _)]
theorem ins_eq (r : Rec) : ∀ l, l.take (pos r l) ++ [r] ++ l.drop (if fnd r l = true then pos r l + 1 else pos r l) = ins r l
  | [] => rfl
  | x :: xs => by
    have ih := ins_eq r xs
    unfold fnd at ih ⊢
    rw [pos, ins]
    by_cases h : cmpR x r < 0
    · rw [if_pos h, if_pos h, ← ih]
      simp only [List.length_cons, Nat.add_lt_add_iff_right, List.getD_cons_succ, List.take_succ_cons]
      split <;> simp
    · rw [if_neg h, if_neg h]
      by_cases h0 : cmpR x r = 0
      · rw [if_pos h0]; simp [h0]
      · rw [if_neg h0]; simp [h0]
theorem del_eq (r : Rec) : ∀ l, fnd r l = true → l.take (pos r l) ++ l.drop (pos r l + 1) = del r l
  | [], h => by simp [fnd] at h
  | x :: xs, hf => by
    unfold fnd at hf
    rw [pos] at hf ⊢
    rw [del]
    by_cases h : cmpR x r < 0
    · rw [if_pos h] at hf ⊢
      rw [if_pos h, ← del_eq r xs (by unfold fnd; simpa using hf)]
      simp
    · rw [if_neg h] at hf ⊢
      rw [if_neg h]
      have h0 : cmpR x r = 0 := by simpa using hf
      rw [if_pos h0]; simp
theorem mem_ins {r y : Rec} : ∀ {l : List Rec}, y ∈ ins r l → y = r ∨ y ∈ l
  | [], h => .inl (List.mem_singleton.1 h)
  | x :: xs, h => by
    rw [ins] at h
    split at h
    · rcases List.mem_cons.1 h with h | h
      · exact .inr (h ▸ List.mem_cons_self)
      · exact (mem_ins h).imp id (List.mem_cons_of_mem _)
    · split at h
      · rcases List.mem_cons.1 h with h | h
        · exact .inl h
        · exact .inr (List.mem_cons_of_mem _ h)
      · rcases List.mem_cons.1 h with h | h
        · exact .inl h
        · exact .inr h
theorem mem_del {r y : Rec} : ∀ {l : List Rec}, y ∈ del r l → y ∈ l
  | [], h => h
  | x :: xs, h => by
    rw [del] at h
    split at h
    · rcases List.mem_cons.1 h with h | h
      · exact h ▸ List.mem_cons_self
      · exact List.mem_cons_of_mem _ (mem_del h)
    · split at h
      · exact List.mem_cons_of_mem _ h
      · exact h
theorem gt_of {x r : Rec} (h : ¬ cmpR x r < 0) (h0 : ¬ cmpR x r = 0) : cmpR r x < 0 := by
  rw [cmpR_anti]; omega
theorem srt_ins {r : Rec} (hr : okR r) : ∀ {l : List Rec}, Srt l → Srt (ins r l)
  | [], _ => ⟨fun y hy => (List.mem_singleton.1 hy) ▸ hr, List.pairwise_singleton _ _⟩
  | x :: xs, hs => by
    refine ⟨fun y hy => (mem_ins hy).elim (fun h => h ▸ hr) (hs.1 y), ?_⟩
    rw [ins]
    by_cases h : cmpR x r < 0
    · rw [if_pos h]
      refine List.pairwise_cons.2 ⟨fun y hy => ?_, (srt_ins hr hs.tl).2⟩
      rcases mem_ins hy with rfl | hy
      · exact h
      · exact hs.hd y hy
    · rw [if_neg h]
      by_cases h0 : cmpR x r = 0
      · rw [if_pos h0]
        refine List.pairwise_cons.2 ⟨fun y hy => ?_, hs.tl.2⟩
        rw [← cmpR_eq h0]; exact hs.hd y hy
      · rw [if_neg h0]
        have hg := gt_of h h0
        refine List.pairwise_cons.2 ⟨fun y hy => ?_, hs.2⟩
        rcases List.mem_cons.1 hy with rfl | hy
        · exact hg
        · exact cmpR_trans hg (hs.hd y hy)
theorem srt_del {r : Rec} : ∀ {l : List Rec}, Srt l → Srt (del r l)
  | [], hs => hs
  | x :: xs, hs => by
    refine ⟨fun y hy => hs.1 y (mem_del hy), ?_⟩
    rw [del]
    by_cases h : cmpR x r < 0
    · rw [if_pos h]
      exact List.pairwise_cons.2 ⟨fun y hy => hs.hd y (mem_del hy), (srt_del hs.tl).2⟩
    · rw [if_neg h]
      by_cases h0 : cmpR x r = 0
      · rw [if_pos h0]; exact hs.tl.2
      · rw [if_neg h0]; exact hs.2
theorem ins_length (r : Rec) : ∀ l, (ins r l).length ≤ l.length + 1 ∧ l.length ≤ (ins r l).length
  | [] => ⟨Nat.le_refl _, Nat.zero_le _⟩
  | x :: xs => by
    have ih := ins_length r xs
    rw [ins]
    split
    · simp only [List.length_cons]; omega
    · split <;> simp only [List.length_cons] <;> omega
theorem put_ok {l : List Rec} (hs : Srt l) (hl : l.length ≤ 1000) {r : Rec} (hr : okR r) : pack_Put l r.1 r.2.1 r.2.2 (ins r l, 0) := by
  have hp := pos_le r l
  have hb : fnd r l = true → pos r l + 1 ≤ l.length := fun h => (of_decide_eq_true h).1
  have hk : ∀ k, ∀ y ∈ l.drop k, okR y := fun k y hy => hs.1 y (List.mem_of_mem_drop hy)
  refine ⟨0, check_ok hr, ineg (by decide) ⟨0, sorted_ok hs (by omega), ineg (by decide) ⟨_, _, place_ok hs (by omega) r, ⟨hp, Nat.le_refl _⟩, l.drop (if fnd r l = true then pos r l + 1 else pos r l), ?_, ⟨Nat.zero_le _, hp⟩, l.take (pos r l), ?_, r.1, r.2.1, r.2.2, twin_ok hr, ?_, _, twins_ok (hk _) ?_, ?_, ?_⟩⟩⟩
  · by_cases hf : fnd r l = true
    · exact ipos hf ⟨by omega, ⟨hb hf, Nat.le_refl _⟩, by rw [if_pos hf, sgl_drop]⟩
    · exact ineg hf (by rw [if_neg hf, sgl_drop])
  · rw [sgl_take]; exact twins_ok (fun y hy => hs.1 y (List.mem_of_mem_take hy)) (by rw [List.length_take]; omega)
  · rw [List.length_take]; simp only [List.length_singleton]; omega
  · rw [List.length_drop]; omega
  · rw [List.length_append, List.length_take, List.length_drop]; simp only [List.length_singleton]; omega
  · rw [← ins_eq]
theorem delete_ok {l : List Rec} (hs : Srt l) (hl : l.length ≤ 1000) {r : Rec} (hf : fnd r l = true) : pack_Delete l r.1 r.2.1 (del r l, 0) := by
  have hp := pos_le r l
  have hb : pos r l + 1 ≤ l.length := (of_decide_eq_true hf).1
  have h := place_ok hs (by omega) (r.1, r.2.1, [])
  rw [pos_key, fnd_key] at h
  refine ⟨0, sorted_ok hs (by omega), ineg (by decide) ⟨_, _, h, ipos hf ⟨⟨Nat.zero_le _, hp⟩, by omega, ⟨hb, Nat.le_refl _⟩, l.take (pos r l), ?_, l.drop (pos r l + 1), ?_, ?_, ?_⟩⟩⟩
  · rw [sgl_take]; exact twins_ok (fun y hy => hs.1 y (List.mem_of_mem_take hy)) (by rw [List.length_take]; omega)
  · rw [sgl_drop]; exact twins_ok (fun y hy => hs.1 y (List.mem_of_mem_drop hy)) (by rw [List.length_drop]; omega)
  · rw [List.length_take, List.length_drop]; omega
  · rw [del_eq r l hf]
theorem delete_no {l : List Rec} (hs : Srt l) (hl : l.length ≤ 1000) {r : Rec} (hf : fnd r l = false) : pack_Delete l r.1 r.2.1 ([], 122) := by
  have h := place_ok hs (by omega) (r.1, r.2.1, [])
  rw [pos_key, fnd_key] at h
  exact ⟨0, sorted_ok hs (by omega), ineg (by decide) ⟨_, _, h, ineg (by rw [hf]; decide) rfl⟩⟩

/-! ### what was put, what was deleted -/
theorem pos_ins (r : Rec) : ∀ l, pos r (ins r l) = pos r l
  | [] => by (show (if cmpR r r < 0 then _ else 0) = 0); rw [if_neg (by rw [cmpR_self]; decide)]
  | x :: xs => by
    rw [ins, pos]
    by_cases h : cmpR x r < 0
    · rw [if_pos h, if_pos h, pos, if_pos h, pos_ins r xs]
    · rw [if_neg h, if_neg h]
      split <;> rw [pos, if_neg (by rw [cmpR_self]; decide)]
theorem get_ins (r : Rec) : ∀ l, pos r l < (ins r l).length ∧ (ins r l).getD (pos r l) zR = r
  | [] => ⟨Nat.one_pos, rfl⟩
  | x :: xs => by
    have ih := get_ins r xs
    rw [ins, pos]
    by_cases h : cmpR x r < 0
    · rw [if_pos h, if_pos h]; exact ⟨Nat.succ_lt_succ ih.1, ih.2⟩
    · rw [if_neg h, if_neg h]
      split <;> exact ⟨Nat.succ_pos _, rfl⟩
theorem fnd_ins (r : Rec) (l : List Rec) : fnd r (ins r l) = true := by
  unfold fnd
  rw [pos_ins, (get_ins r l).2, cmpR_self]
  exact decide_eq_true ⟨(get_ins r l).1, rfl⟩
theorem pos_del (r : Rec) : ∀ l, Srt l → pos r (del r l) = pos r l
  | [], _ => rfl
  | x :: xs, hs => by
    rw [del, pos]
    by_cases h : cmpR x r < 0
    · rw [if_pos h, if_pos h, pos, if_pos h, pos_del r xs hs.tl]
    · rw [if_neg h, if_neg h]
      by_cases h0 : cmpR x r = 0
      · rw [if_pos h0]
        cases xs with
        | nil => rfl
        | cons y ys =>
          rw [pos, if_neg]
          have := hs.hd y List.mem_cons_self
          rw [cmpR_eq h0 y, cmpR_anti] at this; omega
      · rw [if_neg h0, pos, if_neg h]
theorem fnd_del (r : Rec) : ∀ l, Srt l → fnd r (del r l) = false
  | [], _ => rfl
  | x :: xs, hs => by
    have ih := fnd_del r xs hs.tl
    unfold fnd at ih ⊢
    rw [del]
    by_cases h : cmpR x r < 0
    · rw [if_pos h, pos, if_pos h]
      simpa using ih
    · rw [if_neg h]
      by_cases h0 : cmpR x r = 0
      · rw [if_pos h0]
        cases xs with
        | nil => rfl
        | cons y ys =>
          have h1 := hs.hd y List.mem_cons_self
          rw [cmpR_eq h0 y, cmpR_anti] at h1
          rw [pos, if_neg (by omega)]
          refine decide_eq_false ?_
          rintro ⟨_, h2⟩
          rw [List.getD_cons_zero] at h2; omega
      · rw [if_neg h0, pos, if_neg h]
        refine decide_eq_false ?_
        rintro ⟨_, h2⟩
        rw [List.getD_cons_zero] at h2; exact h0 h2
theorem del_ins (r : Rec) : ∀ l, del r (ins r l) = del r l
  | [] => by (show (if cmpR r r < 0 then _ else if cmpR r r = 0 then [] else _) = []); rw [if_neg (by rw [cmpR_self]; decide), if_pos (cmpR_self r)]
  | x :: xs => by
    rw [ins, del]
    by_cases h : cmpR x r < 0
    · rw [if_pos h, if_pos h, del, if_pos h, del_ins r xs]
    · rw [if_neg h, if_neg h]
      split <;> rw [del, if_neg (by rw [cmpR_self]; decide), if_pos (cmpR_self r)]
theorem del_no (r : Rec) : ∀ l, fnd r l = false → del r l = l
  | [], _ => rfl
  | x :: xs, hf => by
    unfold fnd at hf
    rw [pos] at hf
    rw [del]
    by_cases h : cmpR x r < 0
    · rw [if_pos h] at hf ⊢
      rw [del_no r xs (by unfold fnd; simpa using hf)]
    · rw [if_neg h] at hf ⊢
      have h0 : ¬ cmpR x r = 0 := by simpa using hf
      rw [if_neg h0]
theorem del_length (r : Rec) : ∀ l, fnd r l = true → (del r l).length + 1 = l.length
  | [], h => by simp [fnd] at h
  | x :: xs, hf => by
    unfold fnd at hf
    rw [pos] at hf
    rw [del]
    by_cases h : cmpR x r < 0
    · rw [if_pos h] at hf ⊢
      have := del_length r xs (by unfold fnd; simpa using hf)
      simp only [List.length_cons]; omega
    · rw [if_neg h] at hf ⊢
      have h0 : cmpR x r = 0 := by simpa using hf
      rw [if_pos h0]; rfl
theorem ins_len_fnd (r : Rec) : ∀ l, (ins r l).length = l.length + (if fnd r l = true then 0 else 1)
  | [] => rfl
  | x :: xs => by
    have ih := ins_len_fnd r xs
    unfold fnd at ih ⊢
    rw [ins, pos]
    by_cases h : cmpR x r < 0
    · rw [if_pos h, if_pos h]
      simp only [List.length_cons, Nat.add_lt_add_iff_right, List.getD_cons_succ, ih]; omega
    · rw [if_neg h, if_neg h]
      by_cases h0 : cmpR x r = 0
      · rw [if_pos h0]; simp [h0]
      · rw [if_neg h0]; simp [h0]

/-! ### the law's own sorted list -/
def rgt (x : Rec) : Rec :=
  (x.1 % 16, (if 64 < (if x.2.1.length = 0 then ([0#8] : List Byte) else x.2.1).length then seg (if x.2.1.length = 0 then ([0#8] : List Byte) else x.2.1) 0 64 else (if x.2.1.length = 0 then ([0#8] : List Byte) else x.2.1)),
   (if 900 < x.2.2.length then seg x.2.2 0 900 else x.2.2))
theorem rest16 (n : Int) : lethelaw11_rest n 16 (n % 16) := by
  have h1 := Int.tmod_lt_of_pos n (b := 16) (by decide)
  have h2 : -16 < n.tmod 16 := by have := Int.lt_tmod_of_pos n (b := 16) (by decide); omega
  have h4 := Int.mul_tdiv_add_tmod n 16
  unfold lethelaw11_rest
  generalize n.tmod 16 = k at *
  generalize n.tdiv 16 = m at *
  refine ⟨by decide, by omega, by decide, ?_⟩
  rw [Int.tmod_eq_emod_of_nonneg (by omega)]; omega
theorem right_ok (x : Rec) : lethelaw11_right x.1 x.2.1 x.2.2 (rgt x) ∧ okR (rgt x) := by
  have h1 := Int.emod_lt_of_pos x.1 (b := 16) (by decide)
  have h2 := Int.emod_nonneg x.1 (b := 16) (by decide)
  refine ⟨⟨_, rest16 _, (if x.2.1.length = 0 then ([0#8] : List Byte) else x.2.1), ?_, (if 64 < (if x.2.1.length = 0 then ([0#8] : List Byte) else x.2.1).length then seg (if x.2.1.length = 0 then ([0#8] : List Byte) else x.2.1) 0 64 else (if x.2.1.length = 0 then ([0#8] : List Byte) else x.2.1)), ?_, (if 900 < x.2.2.length then seg x.2.2 0 900 else x.2.2), ?_, rfl⟩, h2, by show x.1 % 16 ≤ 15; omega, ?_, ?_, ?_⟩
  · by_cases h : x.2.1.length = 0
    · exact ipos h (by rw [if_pos h])
    · exact ineg h (by rw [if_neg h])
  · by_cases h : 64 < (if x.2.1.length = 0 then ([0#8] : List Byte) else x.2.1).length
    · exact ipos h ⟨⟨Nat.zero_le _, by omega⟩, by rw [if_pos h]⟩
    · exact ineg h (by rw [if_neg h])
  · by_cases h : 900 < x.2.2.length
    · exact ipos h ⟨⟨Nat.zero_le _, by omega⟩, by rw [if_pos h]⟩
    · exact ineg h (by rw [if_neg h])
  all_goals show _ ≤ _; unfold rgt; dsimp only
  · by_cases h : x.2.1.length = 0
    · simp [h]
    · rw [if_neg h]
      split
      · rw [seg_length (by omega)]; omega
      · omega
  · by_cases h : x.2.1.length = 0
    · simp [h]
    · rw [if_neg h]
      split
      · rw [seg_length (by omega)]; omega
      · omega
  · split
    · rw [seg_length (by omega)]; omega
    · omega
theorem drop_cons' {l : List Rec} {k : Nat} (h : k < l.length) : l.drop k = l.getD k zR :: l.drop (k + 1) := by
  rw [List.drop_eq_getElem_cons h, List.getD_eq_getElem?_getD, List.getElem?_eq_getElem h]; rfl
theorem nlt {a : Int} (h : ¬ a < 0) : ¬ (decide (a < 0) = true) := by simpa using h
theorem sz_ok {n : Nat} (h : n ≤ 2000) : (n + 1) * 56 ≤ 140737488355328 ∧ n + 1 < 9223372036854775808 := by omega
theorem insert_ok {out : List Rec} (hs : Srt out) (hl : out.length ≤ 1000) (r : Rec) :
    ∃ x : List Rec × Bool, Iter (lethelaw11_sorted_l1 out r.1 r.2.1 r.2.2) ([], false, 0) x ∧ x.1.length ≤ 1001 ∧ (if x.2 = true then x.1 = ins r out else x.1 ++ [r] = ins r out) := by
  refine iter_go (step := lethelaw11_sorted_l1 out r.1 r.2.1 r.2.2)
    (fun s => s.2.2 ≤ out.length ∧ (if s.2.1 = true then s.1.length ≤ s.2.2 + 1 ∧ s.1 ++ out.drop s.2.2 = ins r out ∧ (∀ j, s.2.2 ≤ j → j < out.length → 0 < cmpR (out.getD j zR) r) else s.1.length ≤ s.2.2 ∧ s.1 ++ ins r (out.drop s.2.2) = ins r out))
    (fun x => x.1.length ≤ 1001 ∧ (if x.2 = true then x.1 = ins r out else x.1 ++ [r] = ins r out)) (fun s => out.length - s.2.2) (fun s hJ => ?_) (out.length + 1) ([], false, 0) (by show out.length - 0 < _; omega) ⟨Nat.zero_le _, ineg (by decide) ⟨Nat.le_refl _, rfl⟩⟩
  obtain ⟨next, done, k⟩ := s
  obtain ⟨h1, h3⟩ := hJ
  dsimp only at h1 h3
  by_cases hk : k < out.length
  · refine .inr ?_
    have hd := drop_cons' hk
    have hm : out.length - (k + 1) < out.length - k := by omega
    have hk1 : k + 1 < 9223372036854775808 := by omega
    have ll : ∀ (Z : List Rec) (z : Rec), (Z ++ [z]).length = Z.length + 1 := fun Z z => List.length_append
    by_cases hdn : done = true
    · subst hdn
      rw [if_pos rfl] at h3
      obtain ⟨h2, h4, h5⟩ := h3
      have hg := h5 k (Nat.le_refl _) hk
      have hg' : cmpR r (out.getD k zR) < 0 := by rw [cmpR_anti]; omega
      have hn : next.length ≤ 2000 := by omega
      have hlen : (next ++ [out.getD k zR]).length ≤ k + 1 + 1 := by rw [ll]; omega
      rw [hd] at h4
      exact ⟨(next ++ [out.getD k zR], true, k + 1), ipos hk ⟨next, true, ipos rfl ⟨rfl, rfl⟩, hk, _, ahead_ok _ _, ineg (nlt (Int.not_lt.2 (Int.le_of_lt hg))) ⟨hk, _, ahead_ok r _, ipos (decide_eq_true hg') ⟨hk, sz_ok hn, hk1, rfl⟩⟩⟩, ⟨hk, ipos rfl ⟨hlen, by rw [List.append_assoc]; exact h4, fun j hj hj2 => h5 j (Nat.le_of_succ_le hj) hj2⟩⟩, hm⟩
    · obtain rfl : done = false := by simpa using hdn
      rw [if_neg (by decide), hd] at h3
      obtain ⟨h2, h3⟩ := h3
      have hn : next.length ≤ 2000 := by omega
      have hnf : ¬ (false = true) := by decide
      by_cases hc : cmpR (out.getD k zR) r < 0
      · rw [ins, if_pos hc] at h3
        have hlen : (next ++ [out.getD k zR]).length ≤ k + 1 := by rw [ll]; omega
        exact ⟨(next ++ [out.getD k zR], false, k + 1), ipos hk ⟨next, false, ineg hnf ⟨hk, _, ahead_ok _ _, ipos (decide_eq_true hc) ⟨rfl, rfl⟩⟩, hk, _, ahead_ok _ _, ipos (decide_eq_true hc) ⟨hk, sz_ok hn, hk1, rfl⟩⟩, ⟨hk, ineg hnf ⟨hlen, by rw [List.append_assoc]; exact h3⟩⟩, hm⟩
      · rw [ins, if_neg hc] at h3
        have hlen : (next ++ [r]).length ≤ k + 1 := by rw [ll]; omega
        by_cases h0 : cmpR (out.getD k zR) r = 0
        · rw [if_pos h0] at h3
          have hz : ¬ cmpR r (out.getD k zR) < 0 := by rw [cmpR_anti]; omega
          refine ⟨(next ++ [r], true, k + 1), ipos hk ⟨next ++ [r], true, ineg hnf ⟨hk, _, ahead_ok _ _, ineg (nlt hc) ⟨sz_ok hn, rfl, rfl⟩⟩, hk, _, ahead_ok _ _, ineg (nlt hc) ⟨hk, _, ahead_ok r _, ineg (nlt hz) ⟨hk1, rfl⟩⟩⟩, ⟨hk, ipos rfl ⟨Nat.le_succ_of_le hlen, by rw [List.append_assoc]; exact h3, fun j hj hj2 => ?_⟩⟩, hm⟩
          have := hs.lt (i := k) (j := j) hj hj2
          rw [cmpR_eq h0, cmpR_anti] at this; omega
        · rw [if_neg h0] at h3
          have hg' := gt_of hc h0
          have hlen2 : ((next ++ [r]) ++ [out.getD k zR]).length ≤ k + 1 + 1 := by rw [ll]; omega
          refine ⟨((next ++ [r]) ++ [out.getD k zR], true, k + 1), ipos hk ⟨next ++ [r], true, ineg hnf ⟨hk, _, ahead_ok _ _, ineg (nlt hc) ⟨sz_ok hn, rfl, rfl⟩⟩, hk, _, ahead_ok _ _, ineg (nlt hc) ⟨hk, _, ahead_ok r _, ipos (decide_eq_true hg') ⟨hk, sz_ok (by omega), hk1, rfl⟩⟩⟩, ⟨hk, ipos rfl ⟨hlen2, by rw [List.append_assoc, List.append_assoc]; exact h3, fun j hj hj2 => ?_⟩⟩, hm⟩
          have h6 := hs.lt (i := k) (j := j) hj hj2
          have h7 := cmpR_trans hg' h6
          rw [cmpR_anti] at h7; omega
  · have hke : k = out.length := by omega
    subst hke
    rw [List.drop_length] at h3
    refine .inl ⟨(next, done), ineg hk rfl, ?_, ?_⟩
    · show next.length ≤ 1001
      by_cases hdn : done = true
      · rw [if_pos hdn] at h3; omega
      · rw [if_neg hdn] at h3; omega
    · by_cases hdn : done = true
      · rw [if_pos hdn] at h3; refine ipos hdn ?_; rw [← h3.2.1, List.append_nil]
      · rw [if_neg hdn] at h3; exact ineg hdn h3.2
def want (l : List Rec) : Nat → List Rec
  | 0 => []
  | n + 1 => ins (rgt (l.getD n zR)) (want l n)
theorem want_srt (l : List Rec) : ∀ n, Srt (want l n) ∧ (want l n).length ≤ n
  | 0 => ⟨⟨fun _ h => (nomatch h), List.Pairwise.nil⟩, Nat.le_refl _⟩
  | n + 1 => by
    have ih := want_srt l n
    have := (ins_length (rgt (l.getD n zR)) (want l n)).1
    exact ⟨srt_ins (right_ok _).2 ih.1, by rw [want]; omega⟩
def wantL (l : List Rec) : List Rec := want l (min l.length 60)
theorem wantL_srt (l : List Rec) : Srt (wantL l) ∧ (wantL l).length ≤ 60 := ⟨(want_srt l _).1, by have := (want_srt l (min l.length 60)).2; unfold wantL; omega⟩
theorem lsorted_ok (l : List Rec) : lethelaw11_sorted l (wantL l) := by
  refine ⟨wantL l, ?_, rfl⟩
  refine Iter.count (fun i => (want l i, i)) (min l.length 60) (fun i hi => ?_) ?_
  · obtain ⟨h1, h2⟩ := want_srt l i
    obtain ⟨⟨next, done⟩, hI, hx1, hx2⟩ := insert_ok h1 (by omega) (rgt (l.getD i zR))
    dsimp only at hx1 hx2
    refine ipos (by omega) (ipos (by omega) ⟨by omega, (rgt (l.getD i zR)).1, (rgt (l.getD i zR)).2.1, (rgt (l.getD i zR)).2.2, (right_ok _).1, next, done, hI, ?_⟩)
    by_cases hd : done = true
    · rw [if_pos hd] at hx2
      exact ipos hd (by rw [hx2]; rfl)
    · rw [if_neg hd] at hx2
      refine ineg hd ⟨by simp only [List.length_singleton]; omega, ?_⟩
      show Sum.inl _ = Sum.inl _
      rw [want, ← hx2]
  · by_cases h : l.length < 60
    · exact ineg (by omega) rfl
    · by_cases h2 : min l.length 60 < l.length
      · exact ipos h2 (ineg (by omega) rfl)
      · exact ineg h2 rfl
end Go.Proofs.Ytbkgblhmlenocaa

/-
  PLAIN (own work): pages: how many records stand in each.
-/
namespace Go.Proofs.Ytbkgblhmlenocaa
set_option linter.unusedSimpArgs false
set_option linter.unusedVariables false
set_option linter.unusedSectionVars false
open Go Go.LW

def sizeR (x : Rec) : Nat := 4 + x.2.1.length + x.2.2.length
def szs (g : List Rec) : Nat := (g.map sizeR).sum
theorem szs_app (g h : List Rec) : szs (g ++ h) = szs g + szs h := by unfold szs; rw [List.map_append, List.sum_append]
theorem szs_cons (x : Rec) (g : List Rec) : szs (x :: g) = sizeR x + szs g := rfl
theorem size_ok {x : Rec} (h : okR x) : pack_Size x.1 x.2.1 x.2.2 (sizeR x) := by
  obtain ⟨h1, h2, h3, h4, h5⟩ := h
  exact ⟨by omega, by omega, rfl⟩
theorem size_bd {x : Rec} (h : okR x) : 5 ≤ sizeR x ∧ sizeR x ≤ 968 := by
  obtain ⟨h1, h2, h3, h4, h5⟩ := h
  unfold sizeR; omega
/-- one record more -/
def pstep (s : List Int × Int) (x : Rec) : List Int × Int :=
  if s.2 < ((sizeR x : Nat) : Int) then (s.1 ++ [1], 1008 - sizeR x)
  else (s.1.set (s.1.length - 1) (s.1.getD (s.1.length - 1) 0 + 1), s.2 - sizeR x)
def pst (l : List Rec) : Nat → List Int × Int
  | 0 => ([], 0)
  | n + 1 => pstep (pst l n) (l.getD n zR)
def packs (l : List Rec) : List Int := (pst l l.length).1
/-- pages: none empty, none too great, each as full as can be -/
def Good : List (List Rec) → Prop
  | [] => True
  | [g] => g ≠ [] ∧ szs g ≤ 1008
  | g :: g' :: G => g ≠ [] ∧ szs g ≤ 1008 ∧ 1008 < szs g + sizeR (g'.headD zR) ∧ Good (g' :: G)
theorem Good.hd : ∀ {g : List Rec} {G : List (List Rec)}, Good (g :: G) → g ≠ [] ∧ szs g ≤ 1008 ∧ Good G
  | _, [], h => ⟨h.1, h.2, trivial⟩
  | _, _ :: _, h => ⟨h.1, h.2.1, h.2.2.2⟩
theorem good_more {x : Rec} : ∀ {G : List (List Rec)} {g : List Rec}, Good (G ++ [g]) → szs g + sizeR x ≤ 1008 → Good (G ++ [g ++ [x]])
  | [], g, h, hs => ⟨by simp, by rw [szs_app]; show szs g + (sizeR x + 0) ≤ _; omega⟩
  | [a], g, h, hs => by
    have hg : g ≠ [] := h.2.2.2.1
    have e : (g ++ [x]).headD zR = g.headD zR := by
      cases g with
      | nil => exact absurd rfl hg
      | cons y ys => rfl
    refine ⟨h.1, h.2.1, ?_, good_more (G := []) h.2.2.2 hs⟩
    rw [e]; exact h.2.2.1
  | a :: b :: G, g, h, hs => ⟨h.1, h.2.1, h.2.2.1, good_more (G := b :: G) h.2.2.2 hs⟩
theorem good_new {x : Rec} (hx : sizeR x ≤ 1008) : ∀ {G : List (List Rec)} {g : List Rec}, Good (G ++ [g]) → 1008 < szs g + sizeR x → Good (G ++ [g] ++ [[x]])
  | [], g, h, hs => ⟨h.1, h.2, hs, by simp, by show sizeR x + 0 ≤ _; omega⟩
  | [a], g, h, hs => ⟨h.1, h.2.1, h.2.2.1, good_new hx (G := []) h.2.2.2 hs⟩
  | a :: b :: G, g, h, hs => ⟨h.1, h.2.1, h.2.2.1, good_new hx (G := b :: G) h.2.2.2 hs⟩
def lens (G : List (List Rec)) : List Int := G.map fun g => ((g.length : Nat) : Int)
theorem pst_ok {l : List Rec} (h : ∀ r ∈ l, okR r) : ∀ n, n ≤ l.length → (n = 0 ∧ pst l n = ([], 0)) ∨ (0 < n ∧ ∃ (G : List (List Rec)) (g : List Rec), pst l n = (lens (G ++ [g]), 1008 - ((szs g : Nat) : Int)) ∧ (G ++ [g]).flatten = l.take n ∧ Good (G ++ [g]))
  | 0, _ => .inl ⟨rfl, rfl⟩
  | n + 1, hn => by
    have hb := size_bd (h _ (getD_mem (i := n) (by omega)))
    refine .inr ⟨Nat.succ_pos _, ?_⟩
    rw [take_succ' (by omega : n < l.length)]
    rcases pst_ok h n (by omega) with ⟨h0, h1⟩ | ⟨h0, G, g, h1, h2, h3⟩
    · subst h0
      refine ⟨[], [l.getD 0 zR], ?_, rfl, by simp, ?_⟩
      · rw [pst, h1, pstep, if_pos (by show (0 : Int) < _; omega)]
        show (_, _) = (_, _)
        congr 1
      · show sizeR _ + 0 ≤ _; omega
    · rw [pst, h1, pstep]
      dsimp only
      by_cases hf : 1008 - ((szs g : Nat) : Int) < ((sizeR (l.getD n zR) : Nat) : Int)
      · rw [if_pos hf]
        refine ⟨G ++ [g], [l.getD n zR], ?_, ?_, good_new (by omega) h3 (by omega)⟩
        · show (_, _) = (_, _)
          congr 1
          unfold lens; simp
        · rw [List.flatten_append, h2]; simp
      · rw [if_neg hf]
        refine ⟨G, g ++ [l.getD n zR], ?_, ?_, good_more h3 (by omega)⟩
        · show (_, _) = (_, _)
          have e1 : (lens (G ++ [g])).length - 1 = (lens G).length := by unfold lens; simp
          have e2 : lens (G ++ [g]) = lens G ++ [((g.length : Nat) : Int)] := by unfold lens; simp
          have e3 : lens (G ++ [g ++ [l.getD n zR]]) = lens G ++ [((g.length : Nat) : Int) + 1] := by unfold lens; simp
          rw [e1, e2, e3]
          congr 1
          · rw [List.set_append_right _ _ (Nat.le_refl _), Nat.sub_self]
            simp
          · rw [szs_app]; show _ = 1008 - ((szs g + (sizeR _ + 0) : Nat) : Int); omega
        · rw [← h2]; simp
theorem packs_ok {l : List Rec} (h : ∀ r ∈ l, okR r) : ∃ G, packs l = lens G ∧ G.flatten = l ∧ Good G := by
  rcases pst_ok h l.length (Nat.le_refl _) with ⟨h0, h1⟩ | ⟨_, G, g, h1, h2, h3⟩
  · exact ⟨[], by unfold packs; rw [h1]; rfl, (List.length_eq_zero_iff.1 h0).symm, trivial⟩
  · exact ⟨G ++ [g], by unfold packs; rw [h1], by rw [h2, List.take_length], h3⟩
theorem good_lens : ∀ {G : List (List Rec)}, Good G → G.length ≤ G.flatten.length
  | [], _ => Nat.le_refl _
  | g :: G, h => by
    have h1 := h.hd.1
    have h2 := good_lens h.hd.2.2
    rw [List.flatten_cons, List.length_append, List.length_cons]
    have : 0 < g.length := List.length_pos_iff.2 h1
    omega
theorem pst_len {l : List Rec} (h : ∀ r ∈ l, okR r) {n : Nat} (hn : n ≤ l.length) : (pst l n).1.length ≤ n ∧ -1008 ≤ (pst l n).2 ∧ (pst l n).2 ≤ 1008 ∧ ∀ z ∈ (pst l n).1, 0 ≤ z ∧ z ≤ (n : Int) := by
  rcases pst_ok h n hn with ⟨h0, h1⟩ | ⟨h0, G, g, h1, h2, h3⟩
  · rw [h1]; exact ⟨Nat.zero_le _, by decide, by decide, fun z hz => by cases hz⟩
  · have hl := good_lens h3
    rw [h2, List.length_take] at hl
    have hg : szs g ≤ 1008 := by
      have : ∀ (G : List (List Rec)), Good (G ++ [g]) → szs g ≤ 1008 := by
        intro G
        induction G with
        | nil => intro h; exact h.2
        | cons a G ih => intro h; exact ih (Good.hd h).2.2
      exact this G h3
    rw [h1]
    refine ⟨by unfold lens; rw [List.length_map]; omega, by show -1008 ≤ 1008 - _; omega, by show 1008 - _ ≤ (1008 : Int); omega, fun z hz => ?_⟩
    obtain ⟨g', hg', rfl⟩ := List.mem_map.1 hz
    refine ⟨by omega, ?_⟩
    have h4 : g'.length ≤ ((G ++ [g]).flatten).length := by
      have := List.Sublist.length_le (List.sublist_flatten_of_mem hg')
      exact this
    rw [h2, List.length_take] at h4
    omega
theorem bd1 {a : Int} (h : -3000 ≤ a ∧ a ≤ 3000) : -9223372036854775808 ≤ a ∧ a ≤ 9223372036854775807 := by omega
theorem pack_ok {l : List Rec} (hs : Srt l) (hl : l.length ≤ 1000) : pack_Pack l (packs l, 0) := by
  refine ⟨0, sorted_ok hs (by omega), ineg (by decide) ⟨packs l, ?_, rfl⟩⟩
  refine Iter.count (step := pack_Pack_l0 l) (fun n => ((pst l n).1, (pst l n).2, n)) l.length (fun n hn => ?_) (ineg (Nat.lt_irrefl _) rfl)
  have hx := hs.1 _ (getD_mem hn)
  have hb := size_bd hx
  obtain ⟨b1, b2, b3, b4⟩ := pst_len hs.1 (Nat.le_of_lt hn)
  obtain ⟨c1, c2, c3, c4⟩ := pst_len hs.1 (n := n + 1) hn
  have hpos : ¬ (pst l n).2 < ((sizeR (l.getD n zR) : Nat) : Int) → 0 < (pst l n).1.length := fun hf => by
    rcases pst_ok hs.1 n (Nat.le_of_lt hn) with ⟨h0, h1⟩ | ⟨h0, G, g, h1, h2, h3⟩
    · rw [h1] at hf; dsimp only at hf; omega
    · rw [h1]; unfold lens; simp
  have hz : ∀ i, 0 ≤ (pst l n).1.getD i 0 ∧ (pst l n).1.getD i 0 ≤ (n : Int) := fun i => by
    rw [List.getD_eq_getElem?_getD]
    by_cases hi : i < (pst l n).1.length
    · rw [List.getElem?_eq_getElem hi]; exact b4 _ (List.getElem_mem hi)
    · rw [List.getElem?_eq_none (by omega)]; exact ⟨Int.le_refl _, by show (0 : Int) ≤ _; omega⟩
  by_cases hf : (pst l n).2 < ((sizeR (l.getD n zR) : Nat) : Int)
  · have hlen : ((pst l n).1 ++ [(0 : Int)]).length = (pst l n).1.length + 1 := by rw [List.length_append]; rfl
    have hi : ((((((pst l n).1 ++ [(0 : Int)]).length : Nat) : Int) - 1).toNat) = (pst l n).1.length := by rw [hlen]; omega
    have hg : ((pst l n).1 ++ [(0 : Int)]).getD (pst l n).1.length 0 = 0 := by simp
    refine ipos hn ⟨hn, (pst l n).1 ++ [0], 1008, ⟨_, size_ok hx, ipos hf ⟨?_, rfl, rfl⟩⟩, ?_, ?_, ?_, ?_, _, size_ok hx, ?_, by omega, ?_⟩
    · show ((pst l n).1.length + 1) * 8 ≤ _ ∧ (pst l n).1.length + 1 < _; omega
    · rw [hlen]; omega
    · rw [hlen]; omega
    · rw [hi, hg]; decide
    · rw [hlen]; omega
    · exact bd1 (a := 1008 - ((sizeR (l.getD n zR) : Nat) : Int)) (by omega)
    · show Sum.inl _ = Sum.inl _
      rw [hi, hg, pst, pstep, if_pos hf, List.set_append_right _ _ (Nat.le_refl _), Nat.sub_self]
      rfl
  · have hp := hpos hf
    have hi : (((((pst l n).1.length : Nat) : Int) - 1).toNat) = (pst l n).1.length - 1 := by omega
    refine ipos hn ⟨hn, (pst l n).1, (pst l n).2, ⟨_, size_ok hx, ineg hf ⟨rfl, rfl⟩⟩, by omega, by omega, ?_, by omega, _, size_ok hx, bd1 (a := (pst l n).2 - ((sizeR (l.getD n zR) : Nat) : Int)) (by omega), by omega, ?_⟩
    · rw [hi]; have := hz ((pst l n).1.length - 1); omega
    · show Sum.inl _ = Sum.inl _
      rw [hi, pst, pstep, if_neg hf]
theorem getD_drop {l : List Rec} {k : Nat} {x : Rec} {t : List Rec} (h : l.drop k = x :: t) : k < l.length ∧ l.getD k zR = x ∧ l.drop (k + 1) = t := by
  have hk : k < l.length := by
    rcases Nat.lt_or_ge k l.length with h1 | h1
    · exact h1
    · rw [List.drop_eq_nil_of_le h1] at h; cases h
  rw [drop_cons' hk] at h
  exact ⟨hk, (List.cons.inj h).1, (List.cons.inj h).2⟩
theorem getI_drop {l : List Int} {k : Nat} {x : Int} {t : List Int} (h : l.drop k = x :: t) : k < l.length ∧ l.getD k 0 = x ∧ l.drop (k + 1) = t := by
  have hk : k < l.length := by
    rcases Nat.lt_or_ge k l.length with h1 | h1
    · exact h1
    · rw [List.drop_eq_nil_of_le h1] at h; cases h
  rw [List.drop_eq_getElem_cons hk] at h
  refine ⟨hk, ?_, (List.cons.inj h).2⟩
  rw [List.getD_eq_getElem?_getD, List.getElem?_eq_getElem hk]
  exact (List.cons.inj h).1
end Go.Proofs.Ytbkgblhmlenocaa

/-
  PLAIN (own work): pages written and read.
-/
namespace Go.Proofs.Ytbkgblhmlenocaa
set_option linter.unusedSimpArgs false
set_option linter.unusedVariables false
set_option linter.unusedSectionVars false
open Go Go.LW

def enc1 (x : Rec) : List Byte := [BitVec.ofInt 8 x.1, BitVec.ofNat 8 x.2.1.length] ++ x.2.1 ++ [BitVec.ofNat 8 (x.2.2.length / 2 ^ 8), BitVec.ofNat 8 x.2.2.length] ++ x.2.2
def encs (g : List Rec) : List Byte := g.flatMap enc1
theorem enc1_length (x : Rec) : (enc1 x).length = sizeR x := by
  unfold enc1 sizeR
  simp only [List.length_append, List.length_cons, List.length_nil]; omega
theorem encs_length (g : List Rec) : (encs g).length = szs g := by
  induction g with
  | nil => rfl
  | cons x g ih => unfold encs at ih ⊢; rw [List.flatMap_cons, List.length_append, enc1_length, ih]; rfl
theorem encs_app (g h : List Rec) : encs (g ++ h) = encs g ++ encs h := List.flatMap_append
theorem encode_ok {g : List Rec} (hs : Srt g) (hl : g.length ≤ 1000) (hz : szs g ≤ 1008) : pack_Encode g (encs g ++ List.replicate (1008 - (encs g).length) 0#8, 0) := by
  refine ⟨0, sorted_ok hs (by omega), ineg (fun h => h rfl) ⟨some (encs g), ?_, fun o he => ?_⟩⟩
  · have := Iter.count (step := pack_Encode_l0 g (encs g ++ List.replicate (1008 - (encs g).length) 0#8, 0)) (x := some (encs g)) (fun i => (encs (g.take i), i)) g.length (fun i hi => ?_) (ineg (Nat.lt_irrefl _) (by rw [List.take_length]))
    · exact this
    · have hx := hs.1 _ (getD_mem hi)
      have hb := size_bd hx
      have e1 : encs (g.take (i + 1)) = encs (g.take i) ++ enc1 (g.getD i zR) := by rw [take_succ' hi, encs_app]; unfold encs; simp
      have hle : szs (g.take (i + 1)) ≤ 1008 := by
        have : szs g = szs (g.take (i + 1)) + szs (g.drop (i + 1)) := by rw [← szs_app, List.take_append_drop]
        omega
      have hl2 : (encs (g.take i)).length + sizeR (g.getD i zR) = (encs (g.take (i + 1))).length := by rw [e1, List.length_append, enc1_length]
      rw [encs_length (g.take (i + 1))] at hl2
      obtain ⟨k1, k2, k3, k4, k5⟩ := hx
      have ll : ∀ (A B : List Byte), (A ++ B).length = A.length + B.length := fun _ _ => List.length_append
      refine ipos hi ⟨hi, _, size_ok ⟨k1, k2, k3, k4, k5⟩, Nat.lt_of_le_of_lt (Nat.le_of_eq hl2) (by omega), ineg (Nat.not_lt.2 (Nat.le_trans (Nat.le_of_eq hl2) hle)) ⟨?_, ?_, ?_, ?_, ?_, by omega, ?_⟩⟩
      · show _ + 2 ≤ _; omega
      · rw [ll]; exact Nat.le_trans (Nat.add_le_add (Nat.add_le_add (Nat.le_trans (Nat.le_add_right _ _) (Nat.le_trans (Nat.le_of_eq hl2) hle)) (Nat.le_refl 2)) k4) (by decide)
      · exact Nat.lt_of_le_of_lt k5 (by decide)
      · rw [ll, ll]; exact Nat.le_trans (Nat.add_le_add (Nat.add_le_add (Nat.add_le_add (Nat.le_trans (Nat.le_add_right _ _) (Nat.le_trans (Nat.le_of_eq hl2) hle)) (Nat.le_refl 2)) k4) (Nat.le_refl 2)) (by decide)
      · rw [ll, ll, ll]; exact Nat.le_trans (Nat.add_le_add (Nat.add_le_add (Nat.add_le_add (Nat.add_le_add (Nat.le_trans (Nat.le_add_right _ _) (Nat.le_trans (Nat.le_of_eq hl2) hle)) (Nat.le_refl 2)) k4) (Nat.le_refl 2)) k5) (by decide)
      · show Sum.inl _ = Sum.inl _
        rw [e1]; unfold enc1; simp only [List.append_assoc]
  · obtain rfl : encs g = o := Option.some.inj he
    exact ⟨by rw [encs_length]; exact hz, rfl⟩

/-! ### one record read -/
instance (r : Rec) : Decidable (okR r) := by unfold okR; infer_instance
def kOf (b : List Byte) : Nat := (lit b 1).toNat
def eOf (b : List Byte) : Nat := (((2 + (lit b 1).toNat) + 2) + ((lit b (2 + (lit b 1).toNat)).toNat) * 2 ^ 8) + (lit b ((2 + (lit b 1).toNat) + 1)).toNat
def xOf (b : List Byte) : Rec := ((((lit b 0).toNat : Nat) : Int), seg b 2 (2 + (lit b 1).toNat), seg b ((2 + (lit b 1).toNat) + 2) (eOf b))
def firstF (b : List Byte) : Rec × Nat :=
  if b.length < 2 then (zR, 0) else if b.length < (2 + (lit b 1).toNat) + 2 then (zR, 0) else if b.length < eOf b then (zR, 0) else if okR (xOf b) then (xOf b, eOf b) else (zR, 0)
theorem check_no {r : Rec} (h : ¬ okR r) : pack_Check r.1 r.2.1 r.2.2 110 := by
  refine ⟨true, ?_, ipos rfl rfl⟩
  by_cases h1 : r.1 < 0
  · exact ipos h1 rfl
  by_cases h2 : 15 < r.1
  · exact ineg h1 (ipos h2 rfl)
  by_cases h3 : r.2.1.length < 1
  · exact ineg h1 (ineg h2 (ipos h3 rfl))
  by_cases h4 : 64 < r.2.1.length
  · exact ineg h1 (ineg h2 (ineg h3 (ipos h4 rfl)))
  refine ineg h1 (ineg h2 (ineg h3 (ineg h4 (decide_eq_true ?_).symm)))
  rcases Nat.lt_or_ge 900 r.2.2.length with h5 | h5
  · exact h5
  · exact absurd ⟨by omega, by omega, by omega, by omega, h5⟩ h
theorem twin_any {r : Rec} (h1 : r.2.1.length ≤ 1000000) (h2 : r.2.2.length ≤ 1000000) : pack_twin r.1 r.2.1 r.2.2 r :=
  ⟨_, join1 h1, _, join1 h2, _, join1 h1, _, join1 h2, rfl⟩
theorem first_rel (b : List Byte) (hb : b.length ≤ 1000000) : pack_first b ((firstF b).1.1, (firstF b).1.2.1, (firstF b).1.2.2, (firstF b).2) := by
  unfold firstF
  have l1 := (lit b 1).isLt
  have l2 := (lit b (2 + (lit b 1).toNat)).isLt
  have l3 := (lit b ((2 + (lit b 1).toNat) + 1)).isLt
  have he : eOf b = (((2 + (lit b 1).toNat) + 2) + ((lit b (2 + (lit b 1).toNat)).toNat) * 2 ^ 8) + (lit b ((2 + (lit b 1).toNat) + 1)).toNat := rfl
  by_cases h1 : b.length < 2
  · rw [if_pos h1]; exact ipos h1 rfl
  rw [if_neg h1]
  by_cases h2 : b.length < (2 + (lit b 1).toNat) + 2
  · rw [if_pos h2]; exact ineg h1 ⟨by omega, ipos h2 rfl⟩
  rw [if_neg h2]
  by_cases h3 : b.length < eOf b
  · rw [if_pos h3]; exact ineg h1 ⟨by omega, ineg h2 ⟨by omega, ⟨by decide, by omega⟩, by omega, by omega, by omega, ipos h3 rfl⟩⟩
  rw [if_neg h3]
  have hk : (seg b 2 (2 + (lit b 1).toNat)).length ≤ 1000000 := by rw [seg_length (by omega)]; omega
  have hv : (seg b ((2 + (lit b 1).toNat) + 2) (eOf b)).length ≤ 1000000 := by rw [seg_length (by omega)]; omega
  have ht := twin_any (r := xOf b) hk hv
  refine ineg h1 ⟨by omega, ineg h2 ⟨by omega, ⟨by decide, by omega⟩, by omega, by omega, by omega, ineg h3 ⟨by omega, ⟨by omega, by omega⟩, ⟨by omega, by omega⟩, (xOf b).1, (xOf b).2.1, (xOf b).2.2, ht, ?_⟩⟩⟩
  by_cases h4 : okR (xOf b)
  · rw [if_pos h4]; exact ⟨0, check_ok h4, ineg (fun h => h rfl) rfl⟩
  · rw [if_neg h4]; exact ⟨110, check_no h4, ipos (by decide) rfl⟩
theorem lit_get {X : List Byte} {q : Nat} (h : q < X.length) : lit X q = X[q] := by
  unfold lit; rw [List.getD_eq_getElem?_getD, List.getElem?_eq_getElem h]; rfl
theorem ofToNat (b : Byte) : BitVec.ofNat 8 b.toNat = b := by simp
theorem ofIntToNat (b : Byte) : BitVec.ofInt 8 ((b.toNat : Nat) : Int) = b := by
  apply BitVec.eq_of_toNat_eq
  have := b.isLt
  rw [BitVec.toNat_ofInt]; omega
theorem seg_at {b : List Byte} {i : Nat} (h : i < b.length) : seg b i (i + 1) = [lit b i] := by
  unfold seg
  rw [List.take_succ_eq_append_getElem h, List.drop_left' (by rw [List.length_take]; omega), lit_get h]
theorem first_back {b : List Byte} (h : (firstF b).2 ≠ 0) : okR (firstF b).1 ∧ (firstF b).2 = sizeR (firstF b).1 ∧ (firstF b).2 ≤ b.length ∧ b.take (firstF b).2 = enc1 (firstF b).1 := by
  unfold firstF at h ⊢
  have l2 := (lit b (2 + (lit b 1).toNat)).isLt
  have l3 := (lit b ((2 + (lit b 1).toNat) + 1)).isLt
  have he : eOf b = (((2 + (lit b 1).toNat) + 2) + ((lit b (2 + (lit b 1).toNat)).toNat) * 2 ^ 8) + (lit b ((2 + (lit b 1).toNat) + 1)).toNat := rfl
  by_cases h1 : b.length < 2
  · rw [if_pos h1] at h; exact absurd rfl h
  rw [if_neg h1] at h ⊢
  by_cases h2 : b.length < (2 + (lit b 1).toNat) + 2
  · rw [if_pos h2] at h; exact absurd rfl h
  rw [if_neg h2] at h ⊢
  by_cases h3 : b.length < eOf b
  · rw [if_pos h3] at h; exact absurd rfl h
  rw [if_neg h3] at h ⊢
  by_cases h4 : okR (xOf b)
  · rw [if_pos h4] at h ⊢
    dsimp only at h ⊢
    have hk : (xOf b).2.1.length = (lit b 1).toNat := by
      show (seg b 2 (2 + (lit b 1).toNat)).length = _
      rw [seg_length (by omega)]; omega
    have hv : (xOf b).2.2.length = (lit b (2 + (lit b 1).toNat)).toNat * 2 ^ 8 + (lit b ((2 + (lit b 1).toNat) + 1)).toNat := by
      show (seg b ((2 + (lit b 1).toNat) + 2) (eOf b)).length = _
      rw [seg_length (by omega)]; omega
    refine ⟨h4, by unfold sizeR; rw [hk, hv]; omega, by omega, ?_⟩
    unfold enc1
    rw [hk, hv]
    have e1 : BitVec.ofInt 8 (xOf b).1 = lit b 0 := ofIntToNat _
    have e2 : BitVec.ofNat 8 (((lit b (2 + (lit b 1).toNat)).toNat * 2 ^ 8 + (lit b ((2 + (lit b 1).toNat) + 1)).toNat) / 2 ^ 8) = lit b (2 + (lit b 1).toNat) := by
      rw [show ((lit b (2 + (lit b 1).toNat)).toNat * 2 ^ 8 + (lit b ((2 + (lit b 1).toNat) + 1)).toNat) / 2 ^ 8 = (lit b (2 + (lit b 1).toNat)).toNat by omega, ofToNat]
    have e3 : BitVec.ofNat 8 ((lit b (2 + (lit b 1).toNat)).toNat * 2 ^ 8 + (lit b ((2 + (lit b 1).toNat) + 1)).toNat) = lit b ((2 + (lit b 1).toNat) + 1) := by
      apply BitVec.eq_of_toNat_eq
      rw [BitVec.toNat_ofNat]; omega
    rw [e1, e2, e3, ofToNat]
    show b.take (eOf b) = [lit b 0, lit b 1] ++ seg b 2 (2 + (lit b 1).toNat) ++ [lit b (2 + (lit b 1).toNat), lit b ((2 + (lit b 1).toNat) + 1)] ++ seg b ((2 + (lit b 1).toNat) + 2) (eOf b)
    have s0 : b.take (eOf b) = seg b 0 (eOf b) := by unfold seg; rw [List.drop_zero]
    have s1 : [lit b 0, lit b 1] = seg b 0 2 := by
      rw [← seg_app (a := 0) (b := 1) (c := 2) ⟨by omega, by omega, by omega⟩, seg_at (by omega), seg_at (i := 1) (by omega)]; rfl
    have s2 : [lit b (2 + (lit b 1).toNat), lit b ((2 + (lit b 1).toNat) + 1)] = seg b (2 + (lit b 1).toNat) (2 + (lit b 1).toNat + 2) := by
      rw [← seg_app (a := 2 + (lit b 1).toNat) (b := 2 + (lit b 1).toNat + 1) (c := 2 + (lit b 1).toNat + 2) ⟨by omega, by omega, by omega⟩, seg_at (by omega), seg_at (i := 2 + (lit b 1).toNat + 1) (by omega)]; rfl
    rw [s0, s1, s2, seg_app ⟨by omega, by omega, by omega⟩, seg_app ⟨by omega, by omega, by omega⟩, seg_app ⟨by omega, by omega, by omega⟩]
  · rw [if_neg h4] at h; exact absurd rfl h
theorem first_enc {x : Rec} (h : okR x) (t : List Byte) : firstF (enc1 x ++ t) = (x, sizeR x) := by
  obtain ⟨h1, h2, h3, h4, h5⟩ := h
  have hlen : (enc1 x ++ t).length = sizeR x + t.length := by rw [List.length_append, enc1_length]
  have hsz : sizeR x = 4 + x.2.1.length + x.2.2.length := rfl
  -- the bytes
  have b0 : lit (enc1 x ++ t) 0 = BitVec.ofInt 8 x.1 := by unfold enc1; simp [lit]
  have b1 : lit (enc1 x ++ t) 1 = BitVec.ofNat 8 x.2.1.length := by unfold enc1; simp [lit]
  have k1 : (lit (enc1 x ++ t) 1).toNat = x.2.1.length := by rw [b1, BitVec.toNat_ofNat]; omega
  have ee : enc1 x ++ t = ([BitVec.ofInt 8 x.1, BitVec.ofNat 8 x.2.1.length] ++ x.2.1) ++ ([BitVec.ofNat 8 (x.2.2.length / 2 ^ 8), BitVec.ofNat 8 x.2.2.length] ++ (x.2.2 ++ t)) := by unfold enc1; simp only [List.append_assoc]
  have hpl : ([BitVec.ofInt 8 x.1, BitVec.ofNat 8 x.2.1.length] ++ x.2.1).length = 2 + x.2.1.length := by rw [List.length_append]; rfl
  have b2 : lit (enc1 x ++ t) (2 + x.2.1.length) = BitVec.ofNat 8 (x.2.2.length / 2 ^ 8) := by
    rw [ee, lit_app, hpl, if_neg (by omega), Nat.sub_self]; rfl
  have b3 : lit (enc1 x ++ t) (2 + x.2.1.length + 1) = BitVec.ofNat 8 x.2.2.length := by
    rw [ee, lit_app, hpl, if_neg (by omega), show 2 + x.2.1.length + 1 - (2 + x.2.1.length) = 1 by omega]; rfl
  have hE : eOf (enc1 x ++ t) = sizeR x := by
    unfold eOf
    rw [k1, b2, b3, BitVec.toNat_ofNat, BitVec.toNat_ofNat]; omega
  have hX : xOf (enc1 x ++ t) = x := by
    unfold xOf
    rw [hE, k1, b0]
    have q1 : (((BitVec.ofInt 8 x.1).toNat : Nat) : Int) = x.1 := by rw [BitVec.toNat_ofInt]; omega
    have q2 : seg (enc1 x ++ t) 2 (2 + x.2.1.length) = x.2.1 := by
      rw [ee]; unfold seg
      rw [List.take_left' hpl]; rfl
    have q3 : seg (enc1 x ++ t) (2 + x.2.1.length + 2) (sizeR x) = x.2.2 := by
      unfold seg
      rw [List.take_left' (enc1_length x)]
      unfold enc1
      rw [List.drop_left' (by simp only [List.length_append, List.length_cons, List.length_nil])]
    rw [q1, q2, q3]
  unfold firstF
  rw [hE, hX, k1, if_neg (by omega), if_neg (by omega), if_neg (by omega), if_pos ⟨h1, h2, h3, h4, h5⟩]
theorem first_zero {z : List Byte} (h : ∀ q, lit z q = 0#8) : (firstF z).2 = 0 := by
  unfold firstF
  split
  · rfl
  split
  · rfl
  split
  · rfl
  split
  · rename_i h4
    have := h4.2.2.1
    unfold xOf at this
    rw [h 1] at this
    dsimp only at this
    unfold seg at this
    simp at this
  · rfl

/-! ### pages read -/
theorem blank_ok {b : List Byte} (hb : b.length ≤ 1000000) : wire_Blank b (b.all (fun z => z == 0#8)) := by
  obtain ⟨x, hI, hx⟩ := iter_go (step := wire_Blank_l0 b) (fun s => s.2 ≤ b.length ∧ (s.1 = 0#8 ↔ (b.take s.2).all (fun z => z == 0#8) = true)) (fun x => x = 0#8 ↔ b.all (fun z => z == 0#8) = true) (fun s => b.length - s.2) (by
    rintro ⟨x, t⟩ ⟨h1, h2⟩
    dsimp only at h1 h2
    by_cases ht : t < b.length
    · refine .inr ⟨(x ||| lit b t, t + 1), ipos ht ⟨ht, by omega, rfl⟩, ⟨ht, ?_⟩, by show b.length - (t + 1) < b.length - t; omega⟩
      show x ||| lit b t = 0#8 ↔ (b.take (t + 1)).all _ = true
      rw [BitVec.or_eq_zero_iff, h2, List.take_succ_eq_append_getElem ht, List.all_append, Bool.and_eq_true, lit_get ht]
      simp
    · refine .inl ⟨x, ineg ht rfl, ?_⟩
      have : t = b.length := by omega
      rw [this, List.take_length] at h2
      exact h2) (b.length + 1) (0#8, 0) (by show b.length - 0 < _; omega) ⟨Nat.zero_le _, by simp⟩
  refine ⟨x, hI, ?_⟩
  rw [Bool.eq_iff_iff, decide_eq_true_iff]; exact hx.symm
def decGo (count : Int) : Nat → List Byte → List Rec → Nat → (List Rec × Nat) ⊕ (List Byte × List Rec)
  | 0, c, out, _ => .inr (c, out)
  | f + 1, c, out, t =>
    if ((t : Nat) : Int) < count then
      if (firstF c).2 = 0 then .inl ([], 110)
      else if 0 < out.length ∧ 0 ≤ cmpR (out.getD (out.length - 1) zR) (firstF c).1 then .inl ([], 111)
      else decGo count f (c.drop (firstF c).2) (out ++ [(firstF c).1]) (t + 1)
    else .inr (c, out)
def toOpt : (List Rec × Nat) ⊕ (List Byte × List Rec) → Option (List Byte × List Rec)
  | .inl _ => none
  | .inr p => some p
theorem decGo_rel {count : Int} {r : List Rec × Nat} : ∀ (f : Nat) (c : List Byte) (out : List Rec) (t : Nat), c.length < f → 5 * out.length + c.length ≤ 1008 → t = out.length → (∀ r0, decGo count f c out t = .inl r0 → r = r0) →
    Iter (pack_Decode_l0 count r) (c, out, t) (toOpt (decGo count f c out t))
  | 0, c, out, t, hf, _, _, _ => absurd hf (Nat.not_lt_zero _)
  | f + 1, c, out, t, hf, hl, ht, hr => by
    rw [decGo] at hr ⊢
    by_cases h1 : ((t : Nat) : Int) < count
    · rw [if_pos h1] at hr ⊢
      have hfr := first_rel c (by omega)
      by_cases h2 : (firstF c).2 = 0
      · rw [if_pos h2] at hr ⊢
        exact .done (ipos h1 ⟨_, _, _, _, hfr, ipos h2 ⟨rfl, hr _ rfl⟩⟩)
      · rw [if_neg h2] at hr ⊢
        obtain ⟨k1, k2, k3, k4⟩ := first_back h2
        have hsz := size_bd k1
        have hi : ((((out.length : Nat) : Int) - 1).toNat) = out.length - 1 := by omega
        by_cases h3 : 0 < out.length ∧ 0 ≤ cmpR (out.getD (out.length - 1) zR) (firstF c).1
        · rw [if_pos h3] at hr ⊢
          refine .done (ipos h1 ⟨_, _, _, _, hfr, ineg h2 ⟨false, ipos h3.1 ⟨by omega, by omega, _, compare_ok _ _, ipos ?_ ⟨rfl, rfl, hr _ rfl⟩⟩, fun h => by cases h⟩⟩)
          rw [hi]; exact h3.2
        · rw [if_neg h3] at hr ⊢
          have hdl : (c.drop (firstF c).2).length + 5 ≤ c.length := by rw [List.length_drop]; omega
          have hol : (out ++ [(firstF c).1]).length = out.length + 1 := List.length_append
          refine .more (s' := (c.drop (firstF c).2, out ++ [(firstF c).1], t + 1)) (ipos h1 ⟨_, _, _, _, hfr, ineg h2 ⟨true, ?_, fun _ => ⟨sz_ok (by omega), ⟨k3, Nat.le_refl _⟩, by omega, ?_⟩⟩⟩) (decGo_rel f _ _ _ (by omega) (by omega) (by omega) hr)
          · by_cases h4 : 0 < out.length
            · refine ipos h4 ⟨by omega, by omega, _, compare_ok _ _, ineg ?_ rfl⟩
              rw [hi]; exact fun h => h3 ⟨h4, h⟩
            · exact ineg h4 rfl
          · show Sum.inl _ = Sum.inl _
            have : seg c (firstF c).2 c.length = c.drop (firstF c).2 := by unfold seg; rw [List.take_length]
            rw [this]
    · rw [if_neg h1]; exact .done (ineg h1 rfl)
def decF (count : Int) (c : List Byte) : List Rec × Nat :=
  if count < 0 then ([], 4) else if c.length < 1008 then ([], 10) else if 1008 < c.length then ([], 11) else
  match decGo count 1009 c [] 0 with
  | .inl r => r
  | .inr p => if p.1.all (fun z => z == 0#8) = true then (p.2, 0) else ([], 104)
theorem decGo_len {count : Int} : ∀ (f : Nat) (c : List Byte) (out : List Rec) (t : Nat) (p : List Byte × List Rec), decGo count f c out t = .inr p → p.1.length ≤ c.length
  | 0, c, out, t, p, h => by rw [decGo] at h; cases h; exact Nat.le_refl _
  | f + 1, c, out, t, p, h => by
    rw [decGo] at h
    split at h
    · split at h
      · cases h
      · split at h
        · cases h
        · exact Nat.le_trans (decGo_len f _ _ _ p h) (by rw [List.length_drop]; omega)
    · cases h; exact Nat.le_refl _
theorem decode_ok (count : Int) (c : List Byte) : pack_Decode count c (decF count c) := by
  unfold decF pack_Decode
  by_cases h1 : count < 0
  · rw [if_pos h1, if_pos h1]
  rw [if_neg h1, if_neg h1]
  by_cases h2 : c.length < 1008
  · rw [if_pos h2, if_pos h2]
  rw [if_neg h2, if_neg h2]
  by_cases h3 : 1008 < c.length
  · rw [if_pos h3, if_pos h3]
  rw [if_neg h3, if_neg h3]
  cases hd : decGo count 1009 c [] 0 with
  | inl r0 =>
    have := decGo_rel (r := r0) 1009 c [] 0 (by omega) (by simp; omega) rfl (fun r1 h => by rw [hd] at h; cases h; rfl)
    rw [hd] at this
    exact ⟨none, this, fun _ _ h => by cases h⟩
  | inr p =>
    have hl := decGo_len 1009 c [] 0 p hd
    have := decGo_rel (count := count) (r := (match (Sum.inr p : (List Rec × Nat) ⊕ (List Byte × List Rec)) with | .inl r => r | .inr p => if p.1.all (fun z => z == 0#8) = true then (p.2, 0) else ([], 104))) 1009 c [] 0 (by omega) (by simp; omega) rfl (fun r1 h => by rw [hd] at h; cases h)
    rw [hd] at this
    refine ⟨some p, this, fun c' out' he => ⟨_, blank_ok (b := c') ?_, ?_⟩⟩
    · obtain rfl : p = (c', out') := Option.some.inj he
      dsimp only at hl; omega
    · obtain rfl : p = (c', out') := Option.some.inj he
      dsimp only
      by_cases hz : c'.all (fun z => z == 0#8) = true
      · rw [if_pos hz, if_pos hz]
      · rw [if_neg hz, if_neg hz]
theorem decGo_inl {count : Int} : ∀ (f : Nat) (c : List Byte) (out : List Rec) (t : Nat) (r : List Rec × Nat), decGo count f c out t = .inl r → r.1 = [] ∧ r.2 ≠ 0
  | 0, c, out, t, p, h => by rw [decGo] at h; cases h
  | f + 1, c, out, t, p, h => by
    rw [decGo] at h
    split at h
    · split at h
      · cases h; exact ⟨rfl, by decide⟩
      · split at h
        · cases h; exact ⟨rfl, by decide⟩
        · exact decGo_inl f _ _ _ p h
    · cases h
theorem decF_err {count : Int} {c : List Byte} (h : (decF count c).2 ≠ 0) : (decF count c).1 = [] := by
  unfold decF at h ⊢
  split
  · rfl
  split
  · rfl
  split
  · rfl
  rename_i h1 h2 h3
  rw [if_neg h1, if_neg h2, if_neg h3] at h
  cases hd : decGo count 1009 c [] 0 with
  | inl r0 => exact (decGo_inl _ _ _ _ _ hd).1
  | inr p =>
    rw [hd] at h
    dsimp only at h ⊢
    split
    · rename_i hz; rw [if_pos hz] at h; exact absurd rfl h
    · rfl
theorem last_lt {out g : List Rec} {x : Rec} (hs : Srt (out ++ x :: g)) (h : 0 < out.length) : cmpR (out.getD (out.length - 1) zR) x < 0 := by
  have h1 := hs.lt (i := out.length - 1) (j := out.length) (by omega) (by rw [List.length_append]; simp)
  have e1 : (out ++ x :: g).getD (out.length - 1) zR = out.getD (out.length - 1) zR := by
    rw [List.getD_eq_getElem?_getD, List.getD_eq_getElem?_getD, List.getElem?_append_left (by omega)]
  have e2 : (out ++ x :: g).getD out.length zR = x := by
    rw [List.getD_eq_getElem?_getD, List.getElem?_append_right (Nat.le_refl _), Nat.sub_self]; rfl
  rw [e1, e2] at h1
  exact h1
theorem decGo_app {count : Int} : ∀ (g : List Rec) (c : List Byte) (out : List Rec) (t f : Nat), Srt (out ++ g) → (((t + g.length : Nat) : Nat) : Int) ≤ count → decGo count (f + g.length) (encs g ++ c) out t = decGo count f c (out ++ g) (t + g.length)
  | [], c, out, t, f, _, _ => by rw [List.append_nil]; rfl
  | x :: g, c, out, t, f, hs, hc => by
    have hx : okR x := hs.1 x (List.mem_append_right _ List.mem_cons_self)
    have hb := size_bd hx
    have he : encs (x :: g) ++ c = enc1 x ++ (encs g ++ c) := by unfold encs; rw [List.flatMap_cons, List.append_assoc]
    have h1 : ((t : Nat) : Int) < count := by rw [List.length_cons] at hc; omega
    have hc2 : (((t + 1 + g.length : Nat) : Nat) : Int) ≤ count := by
      rw [List.length_cons] at hc
      have e : t + 1 + g.length = t + (g.length + 1) := by omega
      rw [e]; exact hc
    have h3 : ¬ (0 < out.length ∧ 0 ≤ cmpR (out.getD (out.length - 1) zR) x) := fun h => absurd (last_lt hs h.1) (Int.not_lt.2 h.2)
    rw [List.length_cons, ← Nat.add_assoc, decGo, if_pos h1, he, first_enc hx, if_neg (by show ¬ sizeR x = 0; omega), if_neg h3, List.drop_left' (enc1_length x)]
    have ih := decGo_app g c (out ++ [x]) (t + 1) f (by rw [List.append_assoc]; exact hs) hc2
    rw [ih, List.append_assoc]
    congr 1
    omega
theorem Srt.snoc {out : List Rec} {x : Rec} (hs : Srt out) (hx : okR x) (h : ¬ (0 < out.length ∧ 0 ≤ cmpR (out.getD (out.length - 1) zR) x)) : Srt (out ++ [x]) := by
  refine ⟨fun r hr => (List.mem_append.1 hr).elim (hs.1 r) fun h => (List.mem_singleton.1 h) ▸ hx, List.pairwise_append.2 ⟨hs.2, List.pairwise_singleton _ _, fun a ha b hb => ?_⟩⟩
  obtain rfl := List.mem_singleton.1 hb
  obtain ⟨i, hi, rfl⟩ := List.mem_iff_getElem.1 ha
  have hl : cmpR (out.getD (out.length - 1) zR) b < 0 := by
    rcases Int.lt_or_le (cmpR (out.getD (out.length - 1) zR) b) 0 with h1 | h1
    · exact h1
    · exact absurd ⟨by omega, h1⟩ h
  have e : out[i] = out.getD i zR := by rw [List.getD_eq_getElem?_getD, List.getElem?_eq_getElem hi]; rfl
  rw [e]
  by_cases h2 : i = out.length - 1
  · rw [h2]; exact hl
  · exact cmpR_trans (hs.lt (i := i) (j := out.length - 1) (by omega) (by omega)) hl
theorem decGo_inv {count : Int} : ∀ (f : Nat) (c : List Byte) (out : List Rec) (t : Nat) (p : List Byte × List Rec), c.length < f → Srt out → ((t : Nat) : Int) ≤ count → decGo count f c out t = .inr p →
    ∃ g, c = encs g ++ p.1 ∧ p.2 = out ++ g ∧ Srt p.2 ∧ (((t + g.length : Nat) : Nat) : Int) = count
  | 0, c, out, t, p, hf, _, _, _ => absurd hf (Nat.not_lt_zero _)
  | f + 1, c, out, t, p, hf, hs, ht, h => by
    rw [decGo] at h
    by_cases h1 : ((t : Nat) : Int) < count
    · rw [if_pos h1] at h
      by_cases h2 : (firstF c).2 = 0
      · rw [if_pos h2] at h; cases h
      · rw [if_neg h2] at h
        obtain ⟨k1, k2, k3, k4⟩ := first_back h2
        by_cases h3 : 0 < out.length ∧ 0 ≤ cmpR (out.getD (out.length - 1) zR) (firstF c).1
        · rw [if_pos h3] at h; cases h
        · rw [if_neg h3] at h
          obtain ⟨g, q1, q2, q3, q4⟩ := decGo_inv f _ _ _ p (by rw [List.length_drop]; omega) (hs.snoc k1 h3) (by omega) h
          refine ⟨(firstF c).1 :: g, ?_, by rw [q2, List.append_assoc]; rfl, q3, by rw [List.length_cons]; omega⟩
          have : encs ((firstF c).1 :: g) = enc1 (firstF c).1 ++ encs g := by unfold encs; rw [List.flatMap_cons]
          rw [this, List.append_assoc, ← q1, ← k4, List.take_append_drop]
    · rw [if_neg h1] at h
      cases h
      exact ⟨[], rfl, (List.append_nil _).symm, hs, by show ((t : Nat) : Int) = count; omega⟩
theorem all_zero {c : List Byte} (h : c.all (fun z => z == 0#8) = true) : c = List.replicate c.length 0#8 :=
  List.eq_replicate_iff.2 ⟨rfl, fun b hb => by simpa using List.all_eq_true.1 h b hb⟩
theorem lit_zeros (n q : Nat) : lit (List.replicate n 0#8) q = 0#8 := by
  unfold lit; rw [List.getD_eq_getElem?_getD, List.getElem?_replicate]; split <;> rfl
theorem srt_nil : Srt [] := ⟨fun _ h => (nomatch h), List.Pairwise.nil⟩
/-- what is written is read again -/
theorem decF_enc {g : List Rec} (hs : Srt g) (hz : szs g ≤ 1008) (hl : g.length ≤ 1000) : decF ((g.length : Nat) : Int) (encs g ++ List.replicate (1008 - (encs g).length) 0#8) = (g, 0) := by
  have hlen := encs_length g
  have hbl : (encs g ++ List.replicate (1008 - (encs g).length) 0#8).length = 1008 := by rw [List.length_append, List.length_replicate]; omega
  unfold decF
  rw [if_neg (by omega), if_neg (by omega), if_neg (by omega), show 1009 = (1009 - g.length) + g.length by omega, decGo_app g _ [] 0 _ hs (by omega), show 1009 - g.length = (1008 - g.length) + 1 by omega, decGo, if_neg (by omega)]
  dsimp only
  rw [if_pos (by simp)]; rfl
end Go.Proofs.Ytbkgblhmlenocaa
