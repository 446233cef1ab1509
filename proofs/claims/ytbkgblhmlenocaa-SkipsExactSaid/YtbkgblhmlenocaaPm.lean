import Derived.Test.YtbkgblhmlenocaaEd
import Derived.Test.YtbkgblhmlenocaaRSkips
import Derived.Test.YtbkgblhmlenocaaEc

/-
  PLAIN (own work): maps as lists of keys and values.
-/
namespace Go.Proofs.Ytbkgblhmlenocaa
set_option linter.unusedSimpArgs false
set_option linter.unusedVariables false
set_option linter.unusedSectionVars false
open Go Go.LW

theorem ipos {c : Prop} [Decidable c] {t e : Prop} (h : c) (x : t) : if c then t else e := (if_pos h).symm ▸ x
theorem ineg {c : Prop} [Decidable c] {t e : Prop} (h : ¬ c) (x : e) : if c then t else e := (if_neg h).symm ▸ x
/-! maps -/
section maps
variable {κ α : Type} [DecidableEq κ]
theorem mget_none {k : κ} : ∀ {X : List (κ × α)}, mget k X = none ↔ k ∉ X.map (·.1)
  | [] => by simp [mget]
  | p :: X => by
    simp only [mget, List.map_cons, List.mem_cons, not_or]
    by_cases h : k = p.1
    · simp [h]
    · rw [if_neg h, mget_none (X := X)]; simp [h]
theorem mget_mem {k : κ} {v : α} : ∀ {X : List (κ × α)}, (k, v) ∈ X → (X.map (·.1)).Nodup → mget k X = some v
  | p :: X, h, hn => by
    rw [List.map_cons, List.nodup_cons] at hn
    rcases List.mem_cons.1 h with rfl | h
    · simp [mget]
    · have : k ≠ p.1 := fun he => hn.1 (he ▸ List.mem_map_of_mem (f := fun p : κ × α => p.1) h)
      simp only [mget]; rw [if_neg this]; exact mget_mem h hn.2
theorem mset_new {k : κ} {v : α} : ∀ {X : List (κ × α)}, mget k X = none → mset k v X = X ++ [(k, v)]
  | [], _ => rfl
  | p :: X, h => by
    simp only [mget] at h
    by_cases hk : k = p.1
    · rw [if_pos hk] at h; cases h
    · rw [if_neg hk] at h
      simp only [mset]; rw [if_neg hk, mset_new h]; rfl
theorem mdel_filter {k : κ} : ∀ {X : List (κ × α)}, (X.map (·.1)).Nodup → mdel k X = X.filter fun p => decide (p.1 ≠ k)
  | [], _ => rfl
  | p :: X, hn => by
    rw [List.map_cons, List.nodup_cons] at hn
    simp only [mdel]
    by_cases h : k = p.1
    · rw [if_pos h, List.filter_cons, if_neg (by simp [h])]
      refine (List.filter_eq_self.2 fun q hq => ?_).symm
      simp only [ne_eq, decide_not, Bool.not_eq_true', decide_eq_false_iff_not]
      exact fun he => hn.1 (h ▸ he ▸ List.mem_map_of_mem (f := fun p : κ × α => p.1) hq)
    · rw [if_neg h, List.filter_cons, if_pos (by simpa using Ne.symm h), mdel_filter hn.2]
theorem mdel_none {k : κ} : ∀ {X : List (κ × α)}, mget k X = none → mdel k X = X
  | [], _ => rfl
  | p :: X, h => by
    simp only [mget] at h
    by_cases hk : k = p.1
    · rw [if_pos hk] at h; cases h
    · rw [if_neg hk] at h
      simp only [mdel]; rw [if_neg hk, mdel_none h]
end maps

theorem perm_erase {α : Type} {R : List α} {i : Nat} {p : α} (h : R[i]? = some p) : R.Perm (p :: R.eraseIdx i) := by
  induction R generalizing i with
  | nil => simp at h
  | cons x R ih =>
    cases i with
    | zero => obtain rfl : x = p := by simpa using h
              exact .refl _
    | succ i => exact ((ih (by simpa using h)).cons x).trans (.swap _ _ _)
theorem mdel_length {κ α : Type} [DecidableEq κ] {k : κ} : ∀ {X : List (κ × α)}, (mget k X).isSome = true → (mdel k X).length + 1 = X.length
  | [], h => by cases h
  | p :: X, h => by
    simp only [mget] at h
    simp only [mdel]
    by_cases hk : k = p.1
    · rw [if_pos hk]; rfl
    · rw [if_neg hk] at h ⊢
      rw [List.length_cons, List.length_cons, mdel_length h]
theorem mdel_keys {κ α : Type} [DecidableEq κ] {k k' : κ} : ∀ {X : List (κ × α)}, k' ∈ (mdel k X).map (·.1) → k' ∈ X.map (·.1)
  | [], h => h
  | p :: X, h => by
    simp only [mdel] at h
    by_cases hk : k = p.1
    · rw [if_pos hk] at h; exact List.mem_cons_of_mem _ h
    · rw [if_neg hk, List.map_cons, List.mem_cons] at h
      rcases h with h | h
      · exact h ▸ List.mem_cons_self
      · exact List.mem_cons_of_mem _ (mdel_keys h)
end Go.Proofs.Ytbkgblhmlenocaa

/-
  PLAIN (own work): skipped keys as a map: what skips' functions answer; a map's entries listed in order.
-/
namespace Go.Proofs.Ytbkgblhmlenocaa
set_option linter.unusedSimpArgs false
set_option linter.unusedVariables false
set_option linter.unusedSectionVars false
open Go Go.LW

abbrev Ky := Nat → BitVec 8
abbrev Pl := BitVec 32 × BitVec 32
abbrev KV := Pl × Ky
abbrev Sk := BitVec 32 × BitVec 32 × Ky
abbrev zK : Ky := fun _ => 0#8
def fl (p : KV) : Sk := (p.1.1, p.1.2, p.2)

/-! order -/
def cmpU (a b : BitVec 32) : Int := if a.toNat < b.toNat then -1 else if b.toNat < a.toNat then 1 else 0
theorem cmpU_ok (a b : BitVec 32) : cmp_Compare_uint32 a b (cmpU a b) := by
  refine ⟨false, (decide_eq_false (by simp)).symm, false, (decide_eq_false (by simp)).symm, ineg (by decide) (ineg (by decide) ?_)⟩
  by_cases h1 : a.toNat < b.toNat
  · exact ipos h1 (if_pos h1)
  · refine ineg h1 ?_
    by_cases h2 : b.toNat < a.toNat
    · exact ipos h2 ((if_neg h1).trans (if_pos h2))
    · exact ineg h2 ((if_neg h1).trans (if_neg h2))
def orI (a b : Int) : Int := if a ≠ 0 then a else b
theorem orI_ok (a b : Int) : cmp_Or_int [a, b] (orI a b) := by
  have l0 : 0 < [a, b].length := Nat.zero_lt_succ _
  have l1 : 1 < [a, b].length := Nat.lt_succ_self _
  unfold orI
  by_cases ha : a ≠ 0
  · rw [if_pos ha]
    exact ⟨none, .done (ipos l0 ⟨l0, ipos ha ⟨rfl, rfl⟩⟩), fun h => by cases h⟩
  · rw [if_neg ha]
    by_cases hb : b ≠ 0
    · refine ⟨none, .more (s' := 1) (ipos l0 ⟨l0, ineg ha ⟨by decide, rfl⟩⟩) (.done (ipos l1 ⟨l1, ipos hb ⟨rfl, rfl⟩⟩)), fun h => by cases h⟩
    · have hb0 : b = 0 := by simpa using hb
      exact ⟨some (), .more (s' := 1) (ipos l0 ⟨l0, ineg ha ⟨by decide, rfl⟩⟩) (.more (s' := 2) (ipos l1 ⟨l1, ineg hb ⟨by decide, rfl⟩⟩) (.done (ineg (Nat.lt_irrefl _) rfl))), fun _ => hb0⟩
def cfS (x y : Sk) : Int := orI (cmpU x.1 y.1) (cmpU x.2.1 y.2.1)
theorem order_ok' (x y : Sk) : skips_order x.1 x.2.1 x.2.2 y.1 y.2.1 y.2.2 (cfS x y) :=
  ⟨_, cmpU_ok _ _, _, cmpU_ok _ _, _, orI_ok _ _, rfl⟩
def ltS (x y : Sk) : Prop := x.1.toNat < y.1.toNat ∨ x.1 = y.1 ∧ x.2.1.toNat < y.2.1.toNat
theorem cfS_lt {x y : Sk} : cfS x y < 0 ↔ ltS x y := by
  unfold cfS orI cmpU ltS
  rw [← BitVec.toNat_inj]
  by_cases h1 : x.1.toNat < y.1.toNat
  · simp [h1]
  · by_cases h2 : y.1.toNat < x.1.toNat
    · simp only [if_neg h1, if_pos h2]; simp; omega
    · have h3 : x.1.toNat = y.1.toNat := by omega
      by_cases h4 : x.2.1.toNat < y.2.1.toNat
      · simp [h3, h4]
      · by_cases h5 : y.2.1.toNat < x.2.1.toNat <;> simp [h3, h4, h5]
theorem cfS_ge {x y : Sk} : 0 ≤ cfS x y ↔ ¬ ltS x y := by rw [← cfS_lt]; omega
theorem cfS_swo : Sort.SWO (Proofs.ltOf cfS) where
  irrefl x := by simp only [Proofs.ltOf, decide_eq_false_iff_not, cfS_lt, ltS]; omega
  trans x y z h1 h2 := by
    simp only [Proofs.ltOf, decide_eq_true_eq, cfS_lt, ltS, ← BitVec.toNat_inj] at *; omega
  ntrans x y z h1 h2 := by
    simp only [Proofs.ltOf, decide_eq_false_iff_not, cfS_lt, ltS, ← BitVec.toNat_inj] at *; omega
/-- there is one list in order -/
theorem sorted_one {E so : List Sk} (hE : E.Pairwise ltS) (hp : so.Perm E) (hs : so.Pairwise fun x y => ¬ cfS y x < 0) : so = E := by
  have hE' : E.Pairwise fun x y => ¬ cfS y x < 0 := hE.imp fun {a b} h => by
    rw [cfS_lt]; unfold ltS at *
    rw [← BitVec.toNat_inj] at *; omega
  refine hp.eq_of_pairwise (fun a b ha hb h1 h2 => ?_) hs hE'
  rw [cfS_lt] at h1 h2
  have hb' := hb
  have ha' : a ∈ E := hp.mem_iff.1 ha
  obtain ⟨i, hi, rfl⟩ := List.getElem_of_mem ha'
  obtain ⟨j, hj, rfl⟩ := List.getElem_of_mem hb
  rcases Nat.lt_trichotomy i j with h | h | h
  · exact absurd (List.pairwise_iff_getElem.1 hE i j hi hj h) h2
  · subst h; rfl
  · exact absurd (List.pairwise_iff_getElem.1 hE j i hj hi h) h1

/-- List: the entries, in order -/
theorem list_ok {X : List KV} {E : List Sk} (most : Int) (hE : E.Pairwise ltS) (hp : E.Perm (X.map fl)) (hl : X.length ≤ 1000) : skips_Table_List most X E := by
  refine RangeR.by (fun R out => (out ++ R.map fl).Perm (X.map fl)) (fun R out i p hi hp => ?_) (fun out hi => ?_) X.length X [] rfl (by simp)
  · have hlen : out.length + R.length = X.length := by have := hi.length_eq; simpa using this
    have hR : 0 < R.length := by have := (List.getElem?_eq_some_iff.1 hp).1; omega
    refine ⟨out ++ [fl p], ⟨⟨?_, ?_⟩, rfl⟩, ?_⟩
    · show (out.length + 1) * 40 ≤ _; omega
    · show out.length + 1 < _; omega
    · refine List.Perm.trans ?_ hi
      rw [List.append_assoc]
      refine List.Perm.append_left _ ?_
      exact (((perm_erase hp).map fl).symm : (fl p :: (R.eraseIdx i).map fl).Perm _)
  · have hi' : out.Perm (X.map fl) := by simpa using hi
    have hlen : out.length = X.length := by have := hi'.length_eq; simpa using this
    refine ⟨by omega, cfS, order_ok', cfS_swo, fun so h1 h2 => ?_⟩
    exact (sorted_one hE ((h1.trans hi').trans hp.symm) h2).symm

/-! what is asked and laid -/
theorem new_ok {most : Int} (h : 0 ≤ most ∧ most ≤ 256) : skips_New most (.inr (most, [], 0)) := ineg (by omega) (ineg (by omega) rfl)
def ents (turn first : BitVec 32) (keys : List Ky) (n : Nat) : List KV := (List.range n).map fun j => ((turn, first + BitVec.ofNat 32 j), keys.getD j zK)
theorem ents_succ (turn first : BitVec 32) (keys : List Ky) (n : Nat) : ents turn first keys (n + 1) = ents turn first keys n ++ [((turn, first + BitVec.ofNat 32 n), keys.getD n zK)] := by
  unfold ents; rw [List.range_succ, List.map_append]; rfl
theorem off_inj {first : BitVec 32} {i j : Nat} (hi : i < 4294967296) (hj : j < 4294967296) (h : first + BitVec.ofNat 32 i = first + BitVec.ofNat 32 j) : i = j := by
  have h1 : BitVec.ofNat 32 i = BitVec.ofNat 32 j := by
    have := congrArg (fun x => x - first) h
    simpa [BitVec.add_comm first, BitVec.add_sub_cancel] using this
  have h2 := congrArg BitVec.toNat h1
  simp only [BitVec.toNat_ofNat] at h2
  omega
theorem ctr {first : BitVec 32} {m : Nat} (h0 : 0 < m) (hm : m < 4294967296) : ((first.setWidth 64 + BitVec.ofNat 64 m) - 1#64).toNat = first.toNat + m - 1 := by
  have := first.isLt
  simp only [BitVec.toNat_sub, BitVec.toNat_add, BitVec.toNat_setWidth, BitVec.toNat_ofNat]
  omega
theorem add_ok {most : Int} {X : List KV} {turn first : BitVec 32} {keys : List Ky} (h0 : 0 < keys.length) (hb : keys.length ≤ 1000) (hX : X.length ≤ 1000) (hc : first.toNat + keys.length ≤ 4294967296) (hn : ∀ i, i < keys.length → mget (turn, first + BitVec.ofNat 32 i) X = none)
    (hr : ((X.length + keys.length : Nat) : Int) ≤ most) : skips_Table_Add most X turn first keys (0, X ++ ents turn first keys keys.length) := by
  refine ineg (by omega) (ineg ?_ ?_)
  · rw [ctr h0 (by omega)]; show ¬ 4294967295 < _; omega
  refine ⟨some (), Iter.count (fun i => i) keys.length (fun i hi => ?_) ?_, fun _ => ⟨by omega, ineg (by omega) ⟨X ++ ents turn first keys keys.length, ?_, rfl⟩⟩⟩
  · exact ipos hi (ineg (by rw [hn i hi]; simp) ⟨by omega, rfl⟩)
  · exact ineg (Nat.lt_irrefl _) rfl
  have key : Iter (skips_Table_Add_l1 turn first keys) (X ++ ents turn first keys 0, 0) (X ++ ents turn first keys keys.length) := by
    refine Iter.count (fun i => (X ++ ents turn first keys i, i)) keys.length (fun i hi => ?_) (ineg (Nat.lt_irrefl _) rfl)
    have hno : mget (turn, first + BitVec.ofNat 32 i) (X ++ ents turn first keys i) = none := by
      rw [mget_none, List.map_append, List.mem_append, not_or]
      refine ⟨mget_none.1 (hn i hi), fun hm => ?_⟩
      obtain ⟨p, hp, he⟩ := List.mem_map.1 hm
      obtain ⟨j, hj, rfl⟩ := List.mem_map.1 hp
      have hj := List.mem_range.1 hj
      have := off_inj (by omega) (by omega) (congrArg Prod.snd he)
      omega
    refine ipos hi ⟨hi, by omega, ?_⟩
    show Sum.inl _ = Sum.inl (mset _ _ _, _)
    rw [mset_new hno, ents_succ, List.append_assoc]
  rw [show X ++ ents turn first keys 0 = X from List.append_nil X] at key
  exact key
theorem add_twice {most : Int} {X : List KV} {turn first : BitVec 32} {keys : List Ky} (h0 : 0 < keys.length) (hb : keys.length ≤ 1000) (hc : first.toNat + keys.length ≤ 4294967296) (ht : (mget (turn, first + BitVec.ofNat 32 0) X).isSome = true) : skips_Table_Add most X turn first keys (151, X) := by
  refine ineg (by omega) (ineg ?_ ⟨none, .done (ipos h0 (ipos ht ⟨rfl, rfl⟩)), fun h => by cases h⟩)
  rw [ctr h0 (by omega)]; show ¬ 4294967295 < _; omega
theorem add_counter {most : Int} {X : List KV} {turn first : BitVec 32} {keys : List Ky} (h0 : 0 < keys.length) (hb : keys.length ≤ 1000) (hc : 4294967296 < first.toNat + keys.length) : skips_Table_Add most X turn first keys (130, X) := by
  refine ineg (by omega) (ipos ?_ rfl)
  rw [ctr h0 (by omega)]; show 4294967295 < _; omega
theorem find_ok {most : Int} {X : List KV} {turn n : BitVec 32} {k : Ky} (h : mget (turn, n) X = some k) : skips_Table_Find most X turn n (k, 0) := ipos (by rw [h]; rfl) (by rw [h]; rfl)
theorem find_no {most : Int} {X : List KV} {turn n : BitVec 32} (h : mget (turn, n) X = none) : skips_Table_Find most X turn n (zK, 152) := ineg (by rw [h]; simp) rfl
theorem take_ok {most : Int} {X : List KV} {turn n : BitVec 32} {k : Ky} (h : mget (turn, n) X = some k) : skips_Table_Take most X turn n (k, 0, mdel (turn, n) X) := ⟨_, _, find_ok h, rfl⟩
theorem take_no {most : Int} {X : List KV} {turn n : BitVec 32} (h : mget (turn, n) X = none) : skips_Table_Take most X turn n (zK, 152, X) := ⟨_, _, find_no h, by rw [mdel_none h]⟩
end Go.Proofs.Ytbkgblhmlenocaa

/-
  PLAIN (own work): marks written over a list, one by one; rooms with three bytes behind.
-/
namespace Go.Proofs.Ytbkgblhmlenocaa
set_option linter.unusedSimpArgs false
set_option linter.unusedVariables false
set_option linter.unusedSectionVars false
open Go Go.LW

theorem iter_ga {S X : Type} {step : S → S ⊕ X → Prop} (J : S → Prop) (Q : X → Prop) (μ : S → Nat)
    (h : ∀ s, J s → (∃ x, step s (.inr x) ∧ Q x) ∨ ∃ s', step s (.inl s') ∧ J s' ∧ μ s' < μ s) : ∀ n s, μ s < n → J s → ∃ x, Iter step s x ∧ Q x
  | 0, s, hn, _ => absurd hn (Nat.not_lt_zero _)
  | n + 1, s, hn, hJ => by
    rcases h s hJ with ⟨x, hx, hQ⟩ | ⟨s', hs, hJ', hm⟩
    · exact ⟨x, .done hx, hQ⟩
    · obtain ⟨x, hx, hQ⟩ := iter_ga J Q μ h n s' (by omega) hJ'
      exact ⟨x, .more hs hx, hQ⟩
/-- the first i are written over -/
def mkl {α : Type} (f : Nat → α) (l : List α) (i : Nat) : List α := (List.range i).map f ++ l.drop i
theorem mkl_zero {α : Type} (f : Nat → α) (l : List α) : mkl f l 0 = l := rfl
theorem mkl_all {α : Type} (f : Nat → α) (l : List α) : mkl f l l.length = (List.range l.length).map f := by unfold mkl; rw [List.drop_length, List.append_nil]
theorem mkl_length {α : Type} (f : Nat → α) (l : List α) {i : Nat} (h : i ≤ l.length) : (mkl f l i).length = l.length := by
  unfold mkl; rw [List.length_append, List.length_map, List.length_range, List.length_drop]; omega
theorem mkl_set {α : Type} (f : Nat → α) (l : List α) {i : Nat} (h : i < l.length) : (mkl f l i).set i (f i) = mkl f l (i + 1) := by
  unfold mkl
  rw [List.set_append, if_neg (by rw [List.length_map, List.length_range]; omega), List.length_map, List.length_range, Nat.sub_self, List.drop_eq_getElem_cons h, List.set_cons_zero, List.range_succ, List.map_append, List.append_assoc]
  rfl
theorem mkl_lit (f : Nat → Byte) (l : List Byte) {i : Nat} (h : i < l.length) : lit (mkl f l (i + 1)) i = f i := by
  unfold lit mkl
  rw [List.getD_eq_getElem?_getD, List.getElem?_append_left (by rw [List.length_map, List.length_range]; omega), List.getElem?_map, List.getElem?_range (by omega)]
  rfl
theorem map_snoc {α : Type} (f : Nat → α) (i : Nat) : (List.range i).map f ++ [f i] = (List.range (i + 1)).map f := by rw [List.range_succ, List.map_append]; rfl
def rooM (X : List Byte) : List Byte := X ++ [209#8, 210#8, 211#8]
theorem rooM_length (X : List Byte) : (rooM X).length = X.length + 3 := by unfold rooM; rw [List.length_append]; rfl
theorem rooM_seg (X : List Byte) : seg (rooM X) 0 X.length = X := by unfold seg rooM; simp
theorem rooM_cut (X : List Byte) : seg (rooM X) 0 ((((rooM X).length : Nat) : Int) - 3).toNat = X := by
  rw [rooM_length]
  have e : (((X.length + 3 : Nat) : Int) - 3).toNat = X.length := by omega
  rw [e, rooM_seg]
end Go.Proofs.Ytbkgblhmlenocaa
