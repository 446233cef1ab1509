import Derived.Test.YtbkgblhmlenocaaEd
import Derived.Test.YtbkgblhmlenocaaRNet
import Derived.Test.YtbkgblhmlenocaaEc

/-
  PLAIN (own work): maps as lists of keys and values.
-/
namespace Go.Proofs.Ytbkgblhmlenocaa
set_option linter.unusedSimpArgs false
set_option linter.unusedVariables false
set_option linter.unusedSectionVars false
open Go Go.LW

theorem ipos {c : Prop} [Decidable c] {t e : Prop} (h : c) (x : t) : if c then t else e := (if_pos h).symm ▸ x
theorem ineg {c : Prop} [Decidable c] {t e : Prop} (h : ¬ c) (x : e) : if c then t else e := (if_neg h).symm ▸ x
/-! maps -/
section maps
variable {κ α : Type} [DecidableEq κ]
theorem mget_none {k : κ} : ∀ {X : List (κ × α)}, mget k X = none ↔ k ∉ X.map (·.1)
  | [] => by simp [mget]
  | p :: X => by
    simp only [mget, List.map_cons, List.mem_cons, not_or]
    by_cases h : k = p.1
    · simp [h]
    · rw [if_neg h, mget_none (X := X)]; simp [h]
theorem mget_mem {k : κ} {v : α} : ∀ {X : List (κ × α)}, (k, v) ∈ X → (X.map (·.1)).Nodup → mget k X = some v
  | p :: X, h, hn => by
    rw [List.map_cons, List.nodup_cons] at hn
    rcases List.mem_cons.1 h with rfl | h
    · simp [mget]
    · have : k ≠ p.1 := fun he => hn.1 (he ▸ List.mem_map_of_mem (f := fun p : κ × α => p.1) h)
      simp only [mget]; rw [if_neg this]; exact mget_mem h hn.2
theorem mset_new {k : κ} {v : α} : ∀ {X : List (κ × α)}, mget k X = none → mset k v X = X ++ [(k, v)]
  | [], _ => rfl
  | p :: X, h => by
    simp only [mget] at h
    by_cases hk : k = p.1
    · rw [if_pos hk] at h; cases h
    · rw [if_neg hk] at h
      simp only [mset]; rw [if_neg hk, mset_new h]; rfl
theorem mdel_filter {k : κ} : ∀ {X : List (κ × α)}, (X.map (·.1)).Nodup → mdel k X = X.filter fun p => decide (p.1 ≠ k)
  | [], _ => rfl
  | p :: X, hn => by
    rw [List.map_cons, List.nodup_cons] at hn
    simp only [mdel]
    by_cases h : k = p.1
    · rw [if_pos h, List.filter_cons, if_neg (by simp [h])]
      refine (List.filter_eq_self.2 fun q hq => ?_).symm
      simp only [ne_eq, decide_not, Bool.not_eq_true', decide_eq_false_iff_not]
      exact fun he => hn.1 (h ▸ he ▸ List.mem_map_of_mem (f := fun p : κ × α => p.1) hq)
    · rw [if_neg h, List.filter_cons, if_pos (by simpa using Ne.symm h), mdel_filter hn.2]
theorem mdel_none {k : κ} : ∀ {X : List (κ × α)}, mget k X = none → mdel k X = X
  | [], _ => rfl
  | p :: X, h => by
    simp only [mget] at h
    by_cases hk : k = p.1
    · rw [if_pos hk] at h; cases h
    · rw [if_neg hk] at h
      simp only [mdel]; rw [if_neg hk, mdel_none h]
end maps

theorem perm_erase {α : Type} {R : List α} {i : Nat} {p : α} (h : R[i]? = some p) : R.Perm (p :: R.eraseIdx i) := by
  induction R generalizing i with
  | nil => simp at h
  | cons x R ih =>
    cases i with
    | zero => obtain rfl : x = p := by simpa using h
              exact .refl _
    | succ i => exact ((ih (by simpa using h)).cons x).trans (.swap _ _ _)
theorem mdel_length {κ α : Type} [DecidableEq κ] {k : κ} : ∀ {X : List (κ × α)}, (mget k X).isSome = true → (mdel k X).length + 1 = X.length
  | [], h => by cases h
  | p :: X, h => by
    simp only [mget] at h
    simp only [mdel]
    by_cases hk : k = p.1
    · rw [if_pos hk]; rfl
    · rw [if_neg hk] at h ⊢
      rw [List.length_cons, List.length_cons, mdel_length h]
theorem mdel_keys {κ α : Type} [DecidableEq κ] {k k' : κ} : ∀ {X : List (κ × α)}, k' ∈ (mdel k X).map (·.1) → k' ∈ X.map (·.1)
  | [], h => h
  | p :: X, h => by
    simp only [mdel] at h
    by_cases hk : k = p.1
    · rw [if_pos hk] at h; exact List.mem_cons_of_mem _ h
    · rw [if_neg hk, List.map_cons, List.mem_cons] at h
      rcases h with h | h
      · exact h ▸ List.mem_cons_self
      · exact List.mem_cons_of_mem _ (mdel_keys h)
end Go.Proofs.Ytbkgblhmlenocaa

/-
  PLAIN (own work): what net's functions answer, of a row of packets that are on their way.
-/
namespace Go.Proofs.Ytbkgblhmlenocaa
set_option linter.unusedSimpArgs false
set_option linter.unusedVariables false
set_option linter.unusedSectionVars false
open Go Go.LW

abbrev Fl := Int × Int × Int × List Byte
abbrev FM := List (Int × Fl)
def cmpN (a b : Int) : Int := if a < b then -1 else if b < a then 1 else 0
theorem cmpN_ok (a b : Int) : cmp_Compare_int a b (cmpN a b) := by
  refine ⟨false, (decide_eq_false (by simp)).symm, false, (decide_eq_false (by simp)).symm, ineg (by decide) (ineg (by decide) ?_)⟩
  by_cases h1 : a < b
  · exact ipos h1 (if_pos h1)
  · refine ineg h1 ?_
    by_cases h2 : b < a
    · exact ipos h2 ((if_neg h1).trans (if_pos h2))
    · exact ineg h2 ((if_neg h1).trans (if_neg h2))
theorem cmpN_lt {a b : Int} : cmpN a b < 0 ↔ a < b := by
  unfold cmpN
  by_cases h1 : a < b
  · simp [h1]
  · by_cases h2 : b < a <;> simp [h1, h2]
def cfF (x y : Fl) : Int := cmpN x.1 y.1
theorem cfF_ok (x y : Fl) : net_Net_Flights_1 x.1 x.2.1 x.2.2.1 x.2.2.2 y.1 y.2.1 y.2.2.1 y.2.2.2 (cfF x y) := ⟨_, cmpN_ok _ _, rfl⟩
theorem cfF_swo : Sort.SWO (Proofs.ltOf cfF) where
  irrefl x := by simp only [Proofs.ltOf, decide_eq_false_iff_not, cfF, cmpN_lt]; omega
  trans x y z h1 h2 := by simp only [Proofs.ltOf, decide_eq_true_eq, cfF, cmpN_lt] at *; omega
  ntrans x y z h1 h2 := by simp only [Proofs.ltOf, decide_eq_false_iff_not, cfF, cmpN_lt] at *; omega
theorem sortedF_one {E so : List Fl} (hE : E.Pairwise fun x y => x.1 < y.1) (hp : so.Perm E) (hs : so.Pairwise fun x y => ¬ cfF y x < 0) : so = E := by
  have hE' : E.Pairwise fun x y => ¬ cfF y x < 0 := hE.imp fun {a b} h => by
    show ¬ cmpN _ _ < 0
    rw [cmpN_lt]; omega
  refine hp.eq_of_pairwise (fun a b ha hb h1 h2 => ?_) hs hE'
  have h1 : ¬ cmpN b.1 a.1 < 0 := h1
  have h2 : ¬ cmpN a.1 b.1 < 0 := h2
  rw [cmpN_lt] at h1 h2
  have ha' : a ∈ E := hp.mem_iff.1 ha
  obtain ⟨i, hi, rfl⟩ := List.getElem_of_mem ha'
  obtain ⟨j, hj, rfl⟩ := List.getElem_of_mem hb
  rcases Nat.lt_trichotomy i j with h | h | h
  · exact absurd (List.pairwise_iff_getElem.1 hE i j hi hj h) h2
  · subst h; rfl
  · exact absurd (List.pairwise_iff_getElem.1 hE j i hj hi h) h1
/-- Flights: the row -/
theorem flights_ok {X : FM} {E : List Fl} (n m k : Int) (hE : E.Pairwise fun x y => x.1 < y.1) (hp : E.Perm (X.map (·.2))) (hl : X.length ≤ 5000) (hb : ∀ p ∈ X, p.2.2.2.2.length ≤ 140737488355328) : net_Net_Flights n m X k E := by
  refine RangeR.by (fun R out => (out ++ R.map (·.2)).Perm (X.map (·.2)) ∧ ∀ p ∈ R, p ∈ X) (fun R out i p hi hp => ?_) (fun out hi => ?_) X.length X [] rfl ⟨by simp, fun _ h => h⟩
  · have hlen : out.length + R.length = X.length := by have := hi.1.length_eq; simpa using this
    have hR : 0 < R.length := by have := (List.getElem?_eq_some_iff.1 hp).1; omega
    have hpX := hi.2 p (List.mem_of_getElem? hp)
    refine ⟨out ++ [p.2], ⟨by have := hb p hpX; rw [Nat.zero_add]; exact this, ⟨?_, ?_⟩, rfl⟩, ?_, fun q hq => hi.2 q ((List.eraseIdx_sublist R i).subset hq)⟩
    · show (out.length + 1) * 48 ≤ _; omega
    · show out.length + 1 < _; omega
    · refine List.Perm.trans ?_ hi.1
      rw [List.append_assoc]
      refine List.Perm.append_left _ ?_
      exact ((perm_erase hp).map (fun q : Int × Fl => q.2)).symm
  · have hi' : out.Perm (X.map (·.2)) := by simpa using hi.1
    have hlen : out.length = X.length := by have := hi'.length_eq; simpa using this
    refine ⟨by omega, cfF, cfF_ok, cfF_swo, fun so h1 h2 => ?_⟩
    exact (sortedF_one hE ((h1.trans hi').trans hp.symm) h2).symm

theorem newNet_ok {n m : Int} (h : 1 ≤ n ∧ n ≤ 4 ∧ 0 ≤ m ∧ m ≤ 4096) : net_New n m (.inr (n, m, [], 0, 0)) := ineg (by omega) (ineg (by omega) (ineg (by omega) (ineg (by omega) rfl)))
theorem clone_ok {b : List Byte} (h : b.length ≤ 140737488355328) : slices_Clone_byte_byte b b := ⟨by omega, rfl⟩
theorem begin_ok {n m k f t : Int} {X : FM} {b : List Byte} (hr : ((X.length : Nat) : Int) < m) (hb : b.length ≤ 140737488355328) (hk : 0 ≤ k ∧ k ≤ 1000000) (hn : mget k X = none) : net_Net_begin n m X k f t b (k, 0, k + 1, X ++ [(k, (k, f, t, b))]) :=
  ineg (by omega) ⟨b, clone_ok hb, ⟨by omega, by omega⟩, by rw [mset_new hn]⟩
theorem begin_full {n m k f t : Int} {X : FM} {b : List Byte} (hr : m ≤ ((X.length : Nat) : Int)) : net_Net_begin n m X k f t b (0, 231, k, X) := ipos hr rfl
theorem send_ok {n m k f t : Int} {X : FM} {b : List Byte} (hf : 1 ≤ f ∧ f ≤ n ∧ 1 ≤ t ∧ t ≤ n) (hr : ((X.length : Nat) : Int) < m) (hb : b.length ≤ 140737488355328) (hk : 0 ≤ k ∧ k ≤ 1000000) (hn : mget k X = none) : net_Net_Send n m X k f t b (k, 0, k + 1, X ++ [(k, (k, f, t, b))]) :=
  ineg (by omega) (ineg (by omega) (ineg (by omega) (ineg (by omega) ⟨_, _, _, _, begin_ok hr hb hk hn, rfl⟩)))
theorem send_full {n m k f t : Int} {X : FM} {b : List Byte} (hf : 1 ≤ f ∧ f ≤ n ∧ 1 ≤ t ∧ t ≤ n) (hr : m ≤ ((X.length : Nat) : Int)) : net_Net_Send n m X k f t b (0, 231, k, X) :=
  ineg (by omega) (ineg (by omega) (ineg (by omega) (ineg (by omega) ⟨_, _, _, _, begin_full hr, rfl⟩)))
theorem deliver_ok {n m k j : Int} {X : FM} {x : Fl} (h : mget j X = some x) : net_Net_Deliver n m X k j (x.1, x.2.1, x.2.2.1, x.2.2.2, 0, mdel j X) := ipos (by rw [h]; rfl) (by rw [h]; rfl)
theorem deliver_no {n m k j : Int} {X : FM} (h : mget j X = none) : net_Net_Deliver n m X k j (0, 0, 0, [], 230, X) := ineg (by rw [h]; simp) rfl
theorem drop_ok {n m k j : Int} {X : FM} {x : Fl} (h : mget j X = some x) : net_Net_Drop n m X k j (0, mdel j X) := ⟨_, _, _, _, _, _, deliver_ok h, rfl⟩
theorem drop_no {n m k j : Int} {X : FM} (h : mget j X = none) : net_Net_Drop n m X k j (230, X) := ⟨_, _, _, _, _, _, deliver_no h, rfl⟩
theorem copy_ok {n m k j : Int} {X : FM} {x : Fl} (h : mget j X = some x) (hr : ((X.length : Nat) : Int) < m) (hb : x.2.2.2.length ≤ 140737488355328) (hk : 0 ≤ k ∧ k ≤ 1000000) (hn : mget k X = none) : net_Net_Copy n m X k j (k, 0, k + 1, X ++ [(k, (k, x.2.1, x.2.2.1, x.2.2.2))]) :=
  ipos (by rw [h]; rfl) ⟨_, _, _, _, by rw [h]; exact begin_ok hr hb hk hn, rfl⟩
theorem copy_full {n m k j : Int} {X : FM} {x : Fl} (h : mget j X = some x) (hr : m ≤ ((X.length : Nat) : Int)) : net_Net_Copy n m X k j (0, 231, k, X) :=
  ipos (by rw [h]; rfl) ⟨_, _, _, _, by rw [h]; exact begin_full hr, rfl⟩
theorem copy_no {n m k j : Int} {X : FM} (h : mget j X = none) : net_Net_Copy n m X k j (0, 230, k, X) := ineg (by rw [h]; simp) rfl
end Go.Proofs.Ytbkgblhmlenocaa

/-
  PLAIN (own work): marks written over a list, one by one; rooms with three bytes behind.
-/
namespace Go.Proofs.Ytbkgblhmlenocaa
set_option linter.unusedSimpArgs false
set_option linter.unusedVariables false
set_option linter.unusedSectionVars false
open Go Go.LW

theorem iter_ga {S X : Type} {step : S → S ⊕ X → Prop} (J : S → Prop) (Q : X → Prop) (μ : S → Nat)
    (h : ∀ s, J s → (∃ x, step s (.inr x) ∧ Q x) ∨ ∃ s', step s (.inl s') ∧ J s' ∧ μ s' < μ s) : ∀ n s, μ s < n → J s → ∃ x, Iter step s x ∧ Q x
  | 0, s, hn, _ => absurd hn (Nat.not_lt_zero _)
  | n + 1, s, hn, hJ => by
    rcases h s hJ with ⟨x, hx, hQ⟩ | ⟨s', hs, hJ', hm⟩
    · exact ⟨x, .done hx, hQ⟩
    · obtain ⟨x, hx, hQ⟩ := iter_ga J Q μ h n s' (by omega) hJ'
      exact ⟨x, .more hs hx, hQ⟩
/-- the first i are written over -/
def mkl {α : Type} (f : Nat → α) (l : List α) (i : Nat) : List α := (List.range i).map f ++ l.drop i
theorem mkl_zero {α : Type} (f : Nat → α) (l : List α) : mkl f l 0 = l := rfl
theorem mkl_all {α : Type} (f : Nat → α) (l : List α) : mkl f l l.length = (List.range l.length).map f := by unfold mkl; rw [List.drop_length, List.append_nil]
theorem mkl_length {α : Type} (f : Nat → α) (l : List α) {i : Nat} (h : i ≤ l.length) : (mkl f l i).length = l.length := by
  unfold mkl; rw [List.length_append, List.length_map, List.length_range, List.length_drop]; omega
theorem mkl_set {α : Type} (f : Nat → α) (l : List α) {i : Nat} (h : i < l.length) : (mkl f l i).set i (f i) = mkl f l (i + 1) := by
  unfold mkl
  rw [List.set_append, if_neg (by rw [List.length_map, List.length_range]; omega), List.length_map, List.length_range, Nat.sub_self, List.drop_eq_getElem_cons h, List.set_cons_zero, List.range_succ, List.map_append, List.append_assoc]
  rfl
theorem mkl_lit (f : Nat → Byte) (l : List Byte) {i : Nat} (h : i < l.length) : lit (mkl f l (i + 1)) i = f i := by
  unfold lit mkl
  rw [List.getD_eq_getElem?_getD, List.getElem?_append_left (by rw [List.length_map, List.length_range]; omega), List.getElem?_map, List.getElem?_range (by omega)]
  rfl
theorem map_snoc {α : Type} (f : Nat → α) (i : Nat) : (List.range i).map f ++ [f i] = (List.range (i + 1)).map f := by rw [List.range_succ, List.map_append]; rfl
def rooM (X : List Byte) : List Byte := X ++ [209#8, 210#8, 211#8]
theorem rooM_length (X : List Byte) : (rooM X).length = X.length + 3 := by unfold rooM; rw [List.length_append]; rfl
theorem rooM_seg (X : List Byte) : seg (rooM X) 0 X.length = X := by unfold seg rooM; simp
theorem rooM_cut (X : List Byte) : seg (rooM X) 0 ((((rooM X).length : Nat) : Int) - 3).toNat = X := by
  rw [rooM_length]
  have e : (((X.length + 3 : Nat) : Int) - 3).toNat = X.length := by omega
  rw [e, rooM_seg]
end Go.Proofs.Ytbkgblhmlenocaa
