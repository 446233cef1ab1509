/-
  PLAIN (own work): skips against the document's: a map of keys and a list in order answer alike.
-/
import Derived.Test.YtbkgblhmlenocaaPm
import Derived.Test.YtbkgblhmlenocaaRLaw15
import Derived.Test.YtbkgblhmlenocaaRRef15
import Derived.Test.YtbkgblhmlenocaaRSkipsExact
namespace Go.Proofs.Ytbkgblhmlenocaa
set_option linter.unusedSimpArgs false
set_option linter.unusedVariables false
set_option linter.unusedSectionVars false
open Go Go.LW

abbrev zS : Sk := (0#32, 0#32, zK)
def pl (x : Sk) : Pl := (x.1, x.2.1)
theorem eqkX (k : Ky) : eqB 32 k k = true := eqB_iff.2 fun _ _ => rfl
instance (x y : Sk) : Decidable (ltS x y) := by unfold ltS; infer_instance
theorem ltS_trans {x y z : Sk} (h1 : ltS x y) (h2 : ltS y z) : ltS x z := by
  unfold ltS at *; rw [← BitVec.toNat_inj] at *; omega
theorem ltS_irr {x y : Sk} (h : ltS x y) : pl x ≠ pl y := by
  intro he
  have h1 : x.1 = y.1 := congrArg (Prod.fst : Pl → _) he
  have h2 : x.2.1 = y.2.1 := congrArg (Prod.snd : Pl → _) he
  unfold ltS at h; rw [h1, h2] at h; omega
theorem ltS_tot {x y : Sk} (h : pl x ≠ pl y) (h1 : ¬ ltS x y) : ltS y x := by
  unfold ltS at *
  have h2 : ¬ (x.1 = y.1 ∧ x.2.1 = y.2.1) := fun ⟨a, b⟩ => h (Prod.ext a b)
  rw [← BitVec.toNat_inj, ← BitVec.toNat_inj] at h2
  rw [← BitVec.toNat_inj] at *
  omega
theorem least {P : Nat → Prop} : ∀ n, P n → ∃ m, m ≤ n ∧ P m ∧ ∀ j, j < m → ¬ P j := by
  intro n
  induction n using Nat.strongRecOn with
  | ind n ih =>
    intro h
    by_cases h2 : ∃ j, j < n ∧ P j
    · obtain ⟨j, hj, hp⟩ := h2
      obtain ⟨m, h1, h3, h4⟩ := ih j hj hp
      exact ⟨m, by omega, h3, h4⟩
    · exact ⟨n, Nat.le_refl _, h, fun j hj hp => h2 ⟨j, hj, hp⟩⟩
theorem getS {E : List Sk} {i : Nat} (h : i < E.length) : E.getD i zS = E[i] := by
  rw [List.getD_eq_getElem?_getD, List.getElem?_eq_getElem h]; rfl
theorem memS {E : List Sk} {i : Nat} (h : i < E.length) : E.getD i zS ∈ E := by rw [getS h]; exact List.getElem_mem h

/-! a key put in its place -/
def insS (s : Sk) : List Sk → List Sk
  | [] => [s]
  | x :: E => if ltS s x then s :: x :: E else x :: insS s E
theorem insS_perm (s : Sk) : ∀ E, (insS s E).Perm (s :: E)
  | [] => .refl _
  | x :: E => by
    unfold insS
    by_cases h : ltS s x
    · rw [if_pos h]
    · rw [if_neg h]; exact ((insS_perm s E).cons x).trans (.swap _ _ _)
theorem insS_sorted (s : Sk) : ∀ {E : List Sk}, E.Pairwise ltS → (∀ x ∈ E, pl x ≠ pl s) → (insS s E).Pairwise ltS
  | [], _, _ => List.pairwise_singleton _ _
  | x :: E, h, hn => by
    unfold insS
    rw [List.pairwise_cons] at h
    by_cases hs : ltS s x
    · rw [if_pos hs]
      refine List.pairwise_cons.2 ⟨fun y hy => ?_, List.pairwise_cons.2 h⟩
      rcases List.mem_cons.1 hy with rfl | hy
      · exact hs
      · exact ltS_trans hs (h.1 y hy)
    · rw [if_neg hs]
      refine List.pairwise_cons.2 ⟨fun y hy => ?_, insS_sorted s h.2 fun x hx => hn x (List.mem_cons_of_mem _ hx)⟩
      rcases List.mem_cons.1 ((insS_perm s E).mem_iff.1 hy) with rfl | hy
      · exact ltS_tot (Ne.symm (hn x List.mem_cons_self)) hs
      · exact h.1 y hy
def gP (s : Sk) (p : List Sk × Bool) (x : Sk) : List Sk × Bool := if p.2 = true then (p.1 ++ [x], true) else if ltS s x then ((p.1 ++ [s]) ++ [x], true) else (p.1 ++ [x], false)
theorem gP_done (s : Sk) : ∀ (E out : List Sk), E.foldl (gP s) (out, true) = (out ++ E, true)
  | [], out => by simp
  | x :: E, out => by
    rw [List.foldl_cons, show gP s (out, true) x = (out ++ [x], true) from if_pos rfl, gP_done s E]; simp
theorem gP_all (s : Sk) : ∀ (E out : List Sk), (if (E.foldl (gP s) (out, false)).2 = true then (E.foldl (gP s) (out, false)).1 else (E.foldl (gP s) (out, false)).1 ++ [s]) = out ++ insS s E
  | [], out => by simp [insS]
  | x :: E, out => by
    rw [List.foldl_cons]
    by_cases h : ltS s x
    · rw [show gP s (out, false) x = ((out ++ [s]) ++ [x], true) from (if_neg (by simp)).trans (if_pos h), gP_done, if_pos rfl]
      unfold insS; rw [if_pos h]; simp
    · rw [show gP s (out, false) x = (out ++ [x], false) from (if_neg (by simp)).trans (if_neg h), gP_all s E, show insS s (x :: E) = x :: insS s E from if_neg h, List.append_assoc]; rfl
theorem gP_len (s : Sk) : ∀ (E : List Sk) (p : List Sk × Bool), (E.foldl (gP s) p).1.length ≤ p.1.length + E.length + (if p.2 = true then 0 else 1)
  | [], p => by rw [List.foldl_nil]; show p.1.length ≤ p.1.length + 0 + _; omega
  | x :: E, p => by
    rw [List.foldl_cons]
    have h := gP_len s E (gP s p x)
    refine Nat.le_trans h ?_
    unfold gP
    by_cases h1 : p.2 = true
    · simp [h1]; omega
    · by_cases h2 : ltS s x
      · simp [h1, h2]; omega
      · simp [h1, h2]; omega
theorem ahead_ok (x y : Sk) : letheref15_ahead x.1 x.2.1 x.2.2 y.1 y.2.1 y.2.2 (decide (ltS x y)) := by
  unfold letheref15_ahead
  by_cases h1 : x.1.toNat < y.1.toNat
  · exact ipos h1 (decide_eq_true (.inl h1))
  · refine ineg h1 ?_
    by_cases h2 : x.1 = y.1
    · refine ipos h2 ?_
      by_cases h3 : x.2.1.toNat < y.2.1.toNat
      · rw [decide_eq_true h3]; exact decide_eq_true (.inr ⟨h2, h3⟩)
      · rw [decide_eq_false h3]; exact decide_eq_false fun h => h.elim h1 fun h => h3 h.2
    · exact ineg h2 (decide_eq_false fun h => h.elim h1 fun h => h2 h.1)
theorem put_ok {most : Int} {E : List Sk} (s : Sk) (hE : E.length ≤ 1000) : letheref15_Table_put E most s.1 s.2.1 s.2.2 (insS s E) := by
  have hbd : ∀ i, ((E.take i).foldl (gP s) ([], false)).1.length ≤ 1001 := fun i => by
    have := gP_len s (E.take i) ([], false)
    rw [List.length_take] at this
    simp at this; omega
  have key : Iter (letheref15_Table_put_l0 E s.1 s.2.1 s.2.2) ((([] : List Sk)), false, 0) (E.foldl (gP s) ([], false)) := by
    refine Iter.count (fun i => (((E.take i).foldl (gP s) ([], false)).1, ((E.take i).foldl (gP s) ([], false)).2, i)) E.length (fun i hi => ?_) ?_
    · have ht : E.take (i + 1) = E.take i ++ [E.getD i zS] := by rw [getS hi]; exact (List.take_append_getElem hi).symm
      rw [ht, List.foldl_append]
      have hb := hbd i
      generalize (E.take i).foldl (gP s) ([], false) = p at hb
      show (if i < E.length then _ else _)
      refine ipos hi ?_
      obtain ⟨out, done⟩ := p
      cases done with
      | true =>
        refine ⟨out, true, ipos rfl ⟨rfl, rfl⟩, hi, ⟨?_, ?_⟩, by omega, ?_⟩
        · show (out.length + 1) * 40 ≤ _; simp only at hb; omega
        · show out.length + 1 < _; simp only at hb; omega
        · show Sum.inl ((gP s (out, true) (E.getD i zS)).1, (gP s (out, true) (E.getD i zS)).2, i + 1) = _
          rw [show gP s (out, true) (E.getD i zS) = (out ++ [E.getD i zS], true) from if_pos rfl]
      | false =>
        simp only at hb
        by_cases h : ltS s (E.getD i zS)
        · refine ⟨out ++ [s], true, ineg (by simp) ⟨hi, _, ahead_ok s (E.getD i zS), ipos (decide_eq_true h) ⟨⟨?_, ?_⟩, rfl, rfl⟩⟩, hi, ⟨?_, ?_⟩, by omega, ?_⟩
          · show (out.length + 1) * 40 ≤ _; omega
          · show out.length + 1 < _; omega
          · show ((out ++ [s]).length + 1) * 40 ≤ _; rw [List.length_append]; show (out.length + 1 + 1) * 40 ≤ _; omega
          · show (out ++ [s]).length + 1 < _; rw [List.length_append]; show out.length + 1 + 1 < _; omega
          · show Sum.inl ((gP s (out, false) (E.getD i zS)).1, (gP s (out, false) (E.getD i zS)).2, i + 1) = _
            rw [show gP s (out, false) (E.getD i zS) = ((out ++ [s]) ++ [E.getD i zS], true) from (if_neg (by simp)).trans (if_pos h)]
        · refine ⟨out, false, ineg (by simp) ⟨hi, _, ahead_ok s (E.getD i zS), ineg (by rw [decide_eq_false h]; simp) ⟨rfl, rfl⟩⟩, hi, ⟨?_, ?_⟩, by omega, ?_⟩
          · show (out.length + 1) * 40 ≤ _; omega
          · show out.length + 1 < _; omega
          · show Sum.inl ((gP s (out, false) (E.getD i zS)).1, (gP s (out, false) (E.getD i zS)).2, i + 1) = _
            rw [show gP s (out, false) (E.getD i zS) = (out ++ [E.getD i zS], false) from (if_neg (by simp)).trans (if_neg h)]
    · refine ineg (Nat.lt_irrefl _) ?_
      rw [List.take_of_length_le (Nat.le_refl _)]
  have hb := hbd E.length
  have ha := gP_all s E []
  rw [List.take_of_length_le (Nat.le_refl _)] at hb
  rw [List.nil_append] at ha
  rw [← ha]
  generalize E.foldl (gP s) ([], false) = p at key hb
  obtain ⟨o, d⟩ := p
  cases d with
  | true => exact ⟨o, true, key, o, ipos rfl rfl, if_pos rfl⟩
  | false => exact ⟨o, false, key, o ++ [s], ineg (by simp) ⟨⟨by show (o.length + 1) * 40 ≤ _; simp only at hb; omega, by show o.length + 1 < _; simp only at hb; omega⟩, rfl⟩, if_neg (by simp)⟩

/-! where a key is -/
theorem at_no {most : Int} {E : List Sk} {t n : BitVec 32} (hE : E.length ≤ 1000) (h : ∀ x ∈ E, pl x ≠ (t, n)) : letheref15_Table_at E most t n (-1) := by
  refine ⟨some (), Iter.count (fun i => i) E.length (fun i hi => ipos hi ⟨hi, ?_⟩) (ineg (Nat.lt_irrefl _) rfl), fun _ => rfl⟩
  have h := h _ (memS hi)
  by_cases h1 : (E.getD i zS).1 = t
  · exact ipos h1 ⟨hi, ineg (fun h2 => h (Prod.ext h1 h2)) ⟨by omega, rfl⟩⟩
  · exact ineg h1 ⟨by omega, rfl⟩
theorem at_yes {most : Int} {E : List Sk} {t n : BitVec 32} {i : Nat} (hE : E.length ≤ 1000) (hi : i < E.length) (he : pl (E.getD i zS) = (t, n)) (hl : ∀ j, j < i → pl (E.getD j zS) ≠ (t, n)) : letheref15_Table_at E most t n (i : Int) := by
  refine ⟨none, Iter.count (fun i => i) i (fun j hj => ipos (c := j < E.length) (by omega) ⟨by omega, ?_⟩) (ipos (c := i < E.length) hi ⟨hi, ipos (congrArg Prod.fst he) ⟨hi, ipos (congrArg Prod.snd he) ⟨rfl, rfl⟩⟩⟩), fun h => by cases h⟩
  have h := hl j hj
  by_cases h1 : (E.getD j zS).1 = t
  · exact ipos h1 ⟨by omega, ineg (fun h2 => h (Prod.ext h1 h2)) ⟨by omega, rfl⟩⟩
  · exact ineg h1 ⟨by omega, rfl⟩

/-! the map and the list -/
structure InvS (X : List KV) (E : List Sk) : Prop where
  srt : E.Pairwise ltS
  prm : E.Perm (X.map fl)
theorem InvS.len {X : List KV} {E : List Sk} (h : InvS X E) : E.length = X.length := by have := h.prm.length_eq; simpa using this
theorem mget_memS {k : Pl} {v : Ky} : ∀ {X : List KV}, mget k X = some v → (k, v) ∈ X
  | p :: X, h => by
    simp only [mget] at h
    by_cases hk : k = p.1
    · rw [if_pos hk] at h
      obtain rfl : p.2 = v := Option.some.inj h
      subst hk; exact List.mem_cons_self
    · rw [if_neg hk] at h; exact List.mem_cons_of_mem _ (mget_memS h)
theorem mdel_perm {k : Pl} {v : Ky} : ∀ {X : List KV}, mget k X = some v → X.Perm ((k, v) :: mdel k X)
  | p :: X, h => by
    simp only [mget] at h
    simp only [mdel]
    by_cases hk : k = p.1
    · rw [if_pos hk] at h ⊢
      obtain rfl : p.2 = v := Option.some.inj h
      subst hk; exact .refl _
    · rw [if_neg hk] at h ⊢
      exact ((mdel_perm h).cons p).trans (.swap _ _ _)
theorem InvS.no {X : List KV} {E : List Sk} (h : InvS X E) {t n : BitVec 32} (hn : mget (t, n) X = none) : ∀ x ∈ E, pl x ≠ (t, n) := by
  intro x hx he
  obtain ⟨p, hp, rfl⟩ := List.mem_map.1 (h.prm.mem_iff.1 hx)
  exact mget_none.1 hn (List.mem_map.2 ⟨p, hp, he⟩)
theorem InvS.yes {X : List KV} {E : List Sk} (h : InvS X E) {t n : BitVec 32} {k : Ky} (hn : mget (t, n) X = some k) : ∃ i, i < E.length ∧ E.getD i zS = (t, n, k) ∧ ∀ j, j < i → pl (E.getD j zS) ≠ (t, n) := by
  have hm : ((t, n, k) : Sk) ∈ E := h.prm.mem_iff.2 (List.mem_map.2 ⟨_, mget_memS hn, rfl⟩)
  obtain ⟨i, hi, he⟩ := List.getElem_of_mem hm
  refine ⟨i, hi, (getS hi).trans he, fun j hj => ?_⟩
  have := List.pairwise_iff_getElem.1 h.srt j i (by omega) hi hj
  rw [getS (by omega)]
  have h2 := ltS_irr this
  rw [he] at h2; exact h2
theorem erase_sgl (E : List Sk) (i : Nat) (hi : i < E.length) : (([] : List Sk) ++ sgl E 0 i) ++ sgl E (i + 1) E.length = E.eraseIdx i := by
  rw [List.nil_append, List.eraseIdx_eq_take_drop_succ]
  unfold sgl
  rw [List.drop_zero, Nat.sub_zero, List.take_of_length_le (i := E.length - (i + 1)) (by rw [List.length_drop]; exact Nat.le_refl _)]
theorem find_both {most : Int} {X : List KV} {E : List Sk} (h : InvS X E) (hl : X.length ≤ 256) (t n : BitVec 32) : ∃ k e, skips_Table_Find most X t n (k, e) ∧ letheref15_Table_Find E most t n (k, e) := by
  have hlE := h.len
  cases hm : mget (t, n) X with
  | none => exact ⟨_, _, find_no hm, _, at_no (by omega) (h.no hm), ipos (by decide) rfl⟩
  | some k =>
    obtain ⟨i, h1, h2, h3⟩ := h.yes hm
    refine ⟨_, _, find_ok hm, (i : Int), at_yes (by omega) h1 (by rw [h2]; rfl) h3, ineg (by omega) ⟨by omega, ?_⟩⟩
    rw [Int.toNat_natCast, h2]
theorem take_both {most : Int} {X : List KV} {E : List Sk} (h : InvS X E) (hl : X.length ≤ 256) (t n : BitVec 32) : ∃ k e X' E', skips_Table_Take most X t n (k, e, X') ∧ letheref15_Table_Take E most t n (k, e, E') ∧ InvS X' E' ∧ X'.length ≤ X.length := by
  have hlE := h.len
  cases hm : mget (t, n) X with
  | none => exact ⟨_, _, X, E, take_no hm, ⟨_, at_no (by omega) (h.no hm), ipos (by decide) rfl⟩, h, Nat.le_refl _⟩
  | some k =>
    obtain ⟨i, h1, h2, h3⟩ := h.yes hm
    have e1 : ((i : Int)).toNat = i := Int.toNat_natCast i
    have e2 : ((i : Int) + 1).toNat = i + 1 := by omega
    have hd := mdel_length (k := (t, n)) (X := X) (by rw [hm]; rfl)
    refine ⟨_, _, mdel (t, n) X, E.eraseIdx i, take_ok hm, ⟨(i : Int), at_yes (by omega) h1 (by rw [h2]; rfl) h3, ineg (by omega) ?_⟩, ⟨h.srt.sublist (List.eraseIdx_sublist E i), ?_⟩, by omega⟩
    · have e3 : (([] : List Sk) ++ sgl E 0 i).length = i := by rw [List.nil_append, sgl_length ⟨Nat.zero_le _, by omega⟩]; omega
      rw [e1, e2, e3, erase_sgl E i h1, h2]
      exact ⟨by omega, by omega, ⟨by omega, by omega⟩, ⟨by omega, by omega⟩, ⟨by omega, by omega⟩, by omega, ⟨by omega, Nat.le_refl _⟩, ⟨by omega, by omega⟩, rfl⟩
    · have p1 : E.Perm (E.getD i zS :: E.eraseIdx i) := perm_erase (by rw [getS h1, List.getElem?_eq_getElem h1])
      rw [h2] at p1
      have p2 : (X.map fl).Perm ((t, n, k) :: (mdel (t, n) X).map fl) := (mdel_perm hm).map fl
      exact List.Perm.cons_inv (p1.symm.trans (h.prm.trans p2))
/-! keys added -/
theorem ctrX {first : BitVec 32} {m : Nat} (h0 : 0 < m) (hm : m < 4611686018427387904) : ((first.setWidth 64 + BitVec.ofNat 64 m) - 1#64).toNat = first.toNat + m - 1 := by
  have := first.isLt
  simp only [BitVec.toNat_sub, BitVec.toNat_add, BitVec.toNat_setWidth, BitVec.toNat_ofNat]
  omega
theorem padd {X : List KV} {E : List Sk} (h : InvS X E) (hX : X.length ≤ 256) {most : Int} {turn first : BitVec 32} {K : List Ky} (hK : K.length ≤ 256) (hc : first.toNat + K.length ≤ 4294967296) (hn : ∀ i, i < K.length → mget (turn, first + BitVec.ofNat 32 i) X = none) :
    ∀ m, m ≤ K.length → ∃ E', (∀ x, Iter (letheref15_Table_Add_l1 most turn first K) (m, E') x → Iter (letheref15_Table_Add_l1 most turn first K) (0, E) x) ∧ InvS (X ++ ents turn first K m) E' := by
  intro m
  induction m with
  | zero => exact fun _ => ⟨E, fun x hx => hx, by rw [show ents turn first K 0 = [] from rfl, List.append_nil]; exact h⟩
  | succ m ih =>
    intro hm
    obtain ⟨E', h1, h2⟩ := ih (by omega)
    have hlE := h2.len
    have hle : (ents turn first K m).length = m := by simp [ents]
    rw [List.length_append, hle] at hlE
    have hno : mget (turn, first + BitVec.ofNat 32 m) (X ++ ents turn first K m) = none := by
      rw [mget_none, List.map_append, List.mem_append, not_or]
      refine ⟨mget_none.1 (hn m (by omega)), fun hm => ?_⟩
      obtain ⟨p, hp, he⟩ := List.mem_map.1 hm
      obtain ⟨j, hj, rfl⟩ := List.mem_map.1 hp
      have hj := List.mem_range.1 hj
      have := off_inj (by omega) (by omega) (congrArg Prod.snd he)
      omega
    refine ⟨insS (turn, first + BitVec.ofNat 32 m, K.getD m zK) E', fun x hx => h1 x (.more (s' := (m + 1, insS (turn, first + BitVec.ofNat 32 m, K.getD m zK) E')) ?_ hx), insS_sorted _ h2.srt fun x hx => h2.no hno x hx, ?_⟩
    · show (if m < K.length then _ else _)
      exact ipos (by omega) ⟨by omega, _, put_ok (turn, first + BitVec.ofNat 32 m, K.getD m zK) (by omega), by omega, rfl⟩
    · rw [ents_succ, ← List.append_assoc, List.map_append]
      exact (insS_perm _ _).trans ((h2.prm.cons _).trans (List.perm_append_comm (l₁ := [_])))
theorem add_both {X : List KV} {E : List Sk} (h : InvS X E) {most : Int} (hm : most ≤ 256) (hX : X.length ≤ 256) (turn first : BitVec 32) {K : List Ky} (hK : K.length < 4611686018427387904) :
    ∃ e X' E', skips_Table_Add most X turn first K (e, X') ∧ letheref15_Table_Add E most turn first K (e, E') ∧ InvS X' E' ∧ X'.length ≤ 256 := by
  have hlE := h.len
  have hf := first.isLt
  by_cases h0 : K.length = 0
  · exact ⟨0, X, E, ipos h0 rfl, ipos h0 rfl, h, hX⟩
  have hct := ctrX (first := first) (m := K.length) (by omega) hK
  by_cases hc : 4294967296 < first.toNat + K.length
  · refine ⟨130, X, E, ineg h0 (ipos ?_ rfl), ineg h0 ⟨by omega, ⟨by omega, by omega⟩, ipos (by omega) rfl⟩, h, hX⟩
    rw [hct]; show 4294967295 < _; omega
  have g1 : ¬ (4294967295#64).toNat < (((first.setWidth 64) + (BitVec.ofNat 64 K.length)) - (1#64)).toNat := by rw [hct]; show ¬ 4294967295 < _; omega
  by_cases ht : ∃ i, i < K.length ∧ (mget (turn, first + BitVec.ofNat 32 i) X).isSome = true
  · obtain ⟨i0, ht⟩ := ht
    obtain ⟨i, hi1, ⟨hi2, hi3⟩, hi4⟩ := least (P := fun i => i < K.length ∧ (mget (turn, first + BitVec.ofNat 32 i) X).isSome = true) i0 ht
    refine ⟨151, X, E, ineg h0 (ineg g1 ⟨none, Iter.count (fun i => i) i (fun j hj => ?_) (ipos hi2 (ipos hi3 ⟨rfl, rfl⟩)), fun h => by cases h⟩), ineg h0 ⟨by omega, ⟨by omega, by omega⟩, ineg (by omega) ⟨none, Iter.count (fun i => i) i (fun j hj => ?_) ?_, fun h => by cases h⟩⟩, h, hX⟩
    · exact ipos (c := j < K.length) (by omega) (ineg (fun hs => hi4 j hj ⟨by omega, hs⟩) ⟨by omega, rfl⟩)
    · have hnj : mget (turn, first + BitVec.ofNat 32 j) X = none := by
        cases hq : mget (turn, first + BitVec.ofNat 32 j) X with
        | none => rfl
        | some k => exact absurd ⟨by omega, by rw [hq]; rfl⟩ (hi4 j hj)
      exact ipos (c := j < K.length) (by omega) ⟨-1, at_no (by omega) (h.no hnj), ineg (by decide) ⟨by omega, rfl⟩⟩
    · cases hq : mget (turn, first + BitVec.ofNat 32 i) X with
      | none => rw [hq] at hi3; cases hi3
      | some k =>
        obtain ⟨p, h1, h2, h3⟩ := h.yes hq
        exact ipos hi2 ⟨(p : Int), at_yes (by omega) h1 (by rw [h2]; rfl) h3, ipos (by omega) ⟨rfl, rfl⟩⟩
  have hn : ∀ i, i < K.length → mget (turn, first + BitVec.ofNat 32 i) X = none := fun i hi => by
    cases hq : mget (turn, first + BitVec.ofNat 32 i) X with
    | none => rfl
    | some k => exact absurd ⟨i, hi, by rw [hq]; rfl⟩ ht
  have c1 : Iter (letheref15_Table_Add_l0 E most turn first K (150, E)) 0 (some ()) ∧ ∀ E', Iter (letheref15_Table_Add_l0 E most turn first K (0, E')) 0 (some ()) := by
    refine ⟨Iter.count (fun i => i) K.length (fun i hi => ?_) (ineg (Nat.lt_irrefl _) rfl), fun E' => Iter.count (fun i => i) K.length (fun i hi => ?_) (ineg (Nat.lt_irrefl _) rfl)⟩
    all_goals exact ipos hi ⟨-1, at_no (by omega) (h.no (hn i hi)), ineg (by decide) ⟨by omega, rfl⟩⟩
  by_cases hr : most < ((X.length + K.length : Nat) : Int)
  · refine ⟨150, X, E, ineg h0 (ineg g1 ⟨some (), Iter.count (fun i => i) K.length (fun i hi => ?_) (ineg (Nat.lt_irrefl _) rfl), fun _ => ⟨by omega, ipos hr rfl⟩⟩), ineg h0 ⟨by omega, ⟨by omega, by omega⟩, ineg (by omega) ⟨some (), c1.1, fun _ => ⟨by omega, ipos (by rw [hlE]; exact hr) rfl⟩⟩⟩, h, hX⟩
    exact ipos hi (ineg (by rw [hn i hi]; simp) ⟨by omega, rfl⟩)
  · obtain ⟨E', h1, h2⟩ := padd h hX (most := most) (turn := turn) (first := first) (K := K) (by omega) (by omega) hn K.length (Nat.le_refl _)
    refine ⟨0, X ++ ents turn first K K.length, E', add_ok (by omega) (by omega) (by omega) (by omega) hn (by omega), ineg h0 ⟨by omega, ⟨by omega, by omega⟩, ineg (by omega) ⟨some (), c1.2 E', fun _ => ⟨by omega, ineg (by rw [hlE]; exact hr) ⟨E', h1 E' (.done (ineg (Nat.lt_irrefl _) rfl)), rfl⟩⟩⟩⟩, h2, ?_⟩
    rw [List.length_append, show (ents turn first K K.length).length = K.length by simp [ents]]; omega
/-! lists held against each other -/
theorem sameX {a : List Sk} (hl : a.length < 9223372036854775808) : lethelaw15_sameList a a true := by
  refine ineg (by simp) ⟨some (), Iter.count (fun i => i) a.length (fun i hi => ipos hi ⟨hi, hi, ipos ?_ ⟨by omega, rfl⟩⟩) (ineg (Nat.lt_irrefl _) rfl), fun _ => rfl⟩
  rw [decide_eq_true rfl, decide_eq_true rfl, eqkX]; rfl
theorem sameKX {a : List Ky} (hl : a.length < 9223372036854775808) : lethelaw15_sameKeys a a true :=
  ineg (by simp) ⟨some (), Iter.count (fun i => i) a.length (fun i hi => ipos hi ⟨hi, hi, ipos (eqkX _) ⟨by omega, rfl⟩⟩) (ineg (Nat.lt_irrefl _) rfl), fun _ => rfl⟩
/-! Load -/
theorem ldNew {most : Int} (h : ¬ (0 ≤ most ∧ most ≤ 256)) : skips_New most (.inl 2) ∧ letheref15_New most (.inl 2) := by
  by_cases h1 : most < 0
  · exact ⟨ipos h1 rfl, ipos h1 rfl⟩
  · exact ⟨ineg h1 (ipos (by omega) rfl), ineg h1 (ipos (by omega) rfl)⟩
theorem rnewX {most : Int} (h : 0 ≤ most ∧ most ≤ 256) : letheref15_New most (.inr ([], most, 0)) := ineg (by omega) (ineg (by omega) rfl)
def ldM (l : List Sk) : List KV := l.foldl (fun X x => mset (x.1, x.2.1) x.2.2 X) []
theorem ldM_sorted : ∀ (l : List Sk) (Y : List Sk), (Y ++ l).Pairwise ltS → l.foldl (fun X x => mset (x.1, x.2.1) x.2.2 X) (Y.map fun x => ((x.1, x.2.1), x.2.2)) = (Y ++ l).map fun x => ((x.1, x.2.1), x.2.2)
  | [], Y, _ => by simp
  | x :: l, Y, h => by
    rw [List.foldl_cons, mset_new, ← List.map_singleton (f := fun x : Sk => (((x.1, x.2.1), x.2.2) : KV)) (a := x), ← List.map_append, ldM_sorted l (Y ++ [x]) (by rw [List.append_assoc]; exact h), List.append_assoc]; rfl
    rw [mget_none]
    intro hm
    obtain ⟨p, hp, he⟩ := List.mem_map.1 hm
    obtain ⟨y, hy, rfl⟩ := List.mem_map.1 hp
    exact ltS_irr ((List.pairwise_append.1 h).2.2 y hy x List.mem_cons_self) he
theorem adj_sorted {l : List Sk} (h : ∀ i, 0 < i → i < l.length → ltS (l.getD (i - 1) zS) (l.getD i zS)) : l.Pairwise ltS := by
  rw [List.pairwise_iff_getElem]
  intro i j hi hj hij
  obtain ⟨d, rfl⟩ : ∃ d, j = i + 1 + d := ⟨j - (i + 1), by omega⟩
  induction d with
  | zero => have := h (i + 1) (by omega) hj; rw [Nat.add_sub_cancel, getS hi, getS hj] at this; exact this
  | succ d ih =>
    have h1 := ih (by omega) (by omega)
    have h2 := h (i + 1 + d + 1) (by omega) (by omega)
    rw [Nat.add_sub_cancel, getS (by omega), getS (by omega)] at h2
    exact ltS_trans h1 h2
theorem prevN {i : Nat} (h : 0 < i) : (((i : Nat) : Int) - 1).toNat = i - 1 := by omega
theorem load_both {most : Int} {l : List Sk} (hl : l.length < 4611686018427387904) : (∃ e, skips_Load most l (.inl e) ∧ letheref15_Load most l (.inl e)) ∨
    (0 ≤ most ∧ most ≤ 256) ∧ ∃ X, skips_Load most l (.inr (most, X, 0)) ∧ letheref15_Load most l (.inr (l, most, 0)) ∧ InvS X l ∧ X.length ≤ 256 := by
  by_cases hm : 0 ≤ most ∧ most ≤ 256
  case neg => exact .inl ⟨2, .inl ⟨2, (ldNew hm).1, ipos (by decide) rfl⟩, .inl ⟨2, (ldNew hm).2, ipos (by decide) rfl⟩⟩
  by_cases hr : most < ((l.length : Nat) : Int)
  · exact .inl ⟨150, .inr ⟨_, _, _, new_ok hm, ineg (by decide) (ipos hr rfl)⟩, .inr ⟨_, _, _, rnewX hm, ineg (by decide) (ipos hr rfl)⟩⟩
  have cstep : ∀ (r : Nat ⊕ (Int × List KV × Nat)) (i : Nat) (h : i < l.length), (0 < i → ltS (l.getD (i - 1) zS) (l.getD i zS)) → skips_Load_l1 l r (ldM (l.take i), i) (.inl (ldM (l.take (i + 1)), i + 1)) := by
    intro r i hi h
    refine ipos (c := i < l.length) hi ⟨hi, true, ?_, fun _ => ⟨by omega, ?_⟩⟩
    · by_cases h0 : 0 < i
      · refine ipos h0 ⟨⟨by omega, by omega⟩, ⟨by omega, by omega⟩, ?_⟩
        rw [prevN h0]
        exact ⟨_, order_ok' (l.getD (i - 1) zS) (l.getD i zS), ineg (by rw [cfS_ge]; exact fun hn => hn (h h0)) rfl⟩
      · exact ineg h0 rfl
    · have ht : l.take (i + 1) = l.take i ++ [l.getD i zS] := by rw [getS hi]; exact (List.take_append_getElem hi).symm
      rw [ht]; unfold ldM; rw [List.foldl_append]; rfl
  have rstep : ∀ (r : Nat ⊕ (List Sk × Int × Nat)) (i : Nat) (h0 : 0 < i) (h : i < l.length), ltS (l.getD (i - 1) zS) (l.getD i zS) → letheref15_Load_l1 l r i (.inl (i + 1)) := by
    intro r i h0 hi h
    refine ipos hi ⟨⟨by omega, by omega⟩, ⟨by omega, by omega⟩, hi, ?_⟩
    rw [prevN h0]
    exact ⟨_, ahead_ok (l.getD (i - 1) zS) (l.getD i zS), ipos (decide_eq_true h) ⟨by omega, rfl⟩⟩
  by_cases hs : ∃ i, 0 < i ∧ i < l.length ∧ ¬ ltS (l.getD (i - 1) zS) (l.getD i zS)
  · obtain ⟨i0, hs⟩ := hs
    obtain ⟨i, _, ⟨h1, h2, h3⟩, h4⟩ := least (P := fun i => 0 < i ∧ i < l.length ∧ ¬ ltS (l.getD (i - 1) zS) (l.getD i zS)) i0 hs
    have h5 : ∀ j, 0 < j → j < i → ltS (l.getD (j - 1) zS) (l.getD j zS) := fun j hj0 hj => by
      have := h4 j hj
      by_cases h : ltS (l.getD (j - 1) zS) (l.getD j zS)
      · exact h
      · exact absurd ⟨hj0, by omega, h⟩ this
    refine .inl ⟨111, .inr ⟨_, _, _, new_ok hm, ineg (by decide) (ineg hr ⟨none, Iter.count (fun i => (ldM (l.take i), i)) i (fun j hj => cstep _ j (by omega) fun h0 => h5 j h0 hj) ?_, fun _ h => by cases h⟩)⟩, .inr ⟨_, _, _, rnewX hm, ineg (by decide) (ineg hr ⟨none, ?_, fun h => by cases h⟩)⟩⟩
    · refine ipos (c := i < l.length) h2 ⟨h2, false, ?_, fun h => by cases h⟩
      refine ipos h1 ⟨⟨by omega, by omega⟩, ⟨by omega, by omega⟩, ?_⟩
      rw [prevN h1]
      exact ⟨_, order_ok' (l.getD (i - 1) zS) (l.getD i zS), ipos (by rw [cfS_ge]; exact h3) ⟨rfl, rfl, rfl⟩⟩
    · refine Iter.count (fun i => i + 1) (i - 1) (fun j hj => rstep _ (j + 1) (by omega) (by omega) (h5 (j + 1) (by omega) (by omega))) ?_
      rw [show i - 1 + 1 = i by omega]
      refine ipos h2 ⟨⟨by omega, by omega⟩, ⟨by omega, by omega⟩, h2, ?_⟩
      rw [prevN h1]
      exact ⟨_, ahead_ok (l.getD (i - 1) zS) (l.getD i zS), ineg (by rw [decide_eq_false h3]; simp) ⟨rfl, rfl⟩⟩
  · have hs' : ∀ i, 0 < i → i < l.length → ltS (l.getD (i - 1) zS) (l.getD i zS) := fun i h0 hi => by
      by_cases h : ltS (l.getD (i - 1) zS) (l.getD i zS)
      · exact h
      · exact absurd ⟨i, h0, hi, h⟩ hs
    have hsrt := adj_sorted hs'
    have hM : ldM l = l.map fun x => ((x.1, x.2.1), x.2.2) := ldM_sorted l [] hsrt
    refine .inr ⟨hm, ldM l, .inr ⟨_, _, _, new_ok hm, ineg (by decide) (ineg hr ⟨some (ldM l), Iter.count (fun i => (ldM (l.take i), i)) l.length (fun j hj => cstep _ j hj fun h0 => hs' j h0 hj) ?_, fun mp h => by rw [← Option.some.inj h]⟩)⟩, .inr ⟨_, _, _, rnewX hm, ineg (by decide) (ineg hr ⟨some (), ?_, fun _ => ⟨⟨by show (0 + l.length) * 40 ≤ _; omega, by show 0 + l.length < _; omega⟩, by rw [List.nil_append]⟩⟩)⟩, ⟨hsrt, ?_⟩, ?_⟩
    · refine ineg (c := l.length < l.length) (Nat.lt_irrefl _) ?_
      rw [List.take_of_length_le (Nat.le_refl _)]
    · refine Iter.count (fun i => i + 1) (l.length - 1) (fun j hj => rstep _ (j + 1) (by omega) (by omega) (hs' (j + 1) (by omega) (by omega))) (ineg (by omega) rfl)
    · rw [hM, List.map_map]; exact (List.map_id' l).symm ▸ .refl _
    · rw [hM, List.length_map]; omega
/-! the law -/
theorem mark_ok {l : List Sk} (hl : l.length < 4611686018427387904) : ∀ i, i < 2 → (([] ++ l) ++ [((66#32, 0#32, zK) : Sk), (66#32, 0#32, zK)]).getD (l.length + i) zS = (66#32, 0#32, zK) := by
  intro i hi
  rw [List.nil_append, List.getD_eq_getElem?_getD, List.getElem?_append_right (by omega), show l.length + i - l.length = i by omega]
  match i, hi with
  | 0, _ => rfl
  | 1, _ => rfl
theorem marks : ((decide (((66#32, 0#32, zK) : Sk).1 = 66#32)) && (decide (((66#32, 0#32, zK) : Sk).2.1 = 0#32) && (eqB 32 ((66#32, 0#32, zK) : Sk).2.2 zK && true))) = true := by
  rw [eqkX]; rfl
theorem sgl_pre {α : Type} (l Z : List α) : sgl (([] ++ l) ++ Z) 0 l.length = l := by
  unfold sgl; rw [List.drop_zero, Nat.sub_zero, List.nil_append, List.take_left']; rfl
abbrev Sc := Int × BitVec 32 × BitVec 32 × List Ky
theorem mem_sc {script : List Sc} {i : Nat} (hi : i < script.length) : script.getD i ((0 : Int), 0#32, 0#32, ([] : List Ky)) ∈ script := by
  rw [List.getD_eq_getElem?_getD, List.getElem?_eq_getElem hi]; exact List.getElem_mem hi
theorem loop_ok (script : List Sc) (most : Int) (hm : most ≤ 256) (hQ : ∀ x ∈ script, (x.2.2.2.length + 2) * 32 ≤ 140737488355328) {X : List KV} {E : List Sk} (hI : InvS X E) (hX : X.length ≤ 256) :
    ∃ x, Iter (lethelaw15_SkipsExact_l1 script most true) (0, most, X, E) x ∧ ∃ X' E', InvS X' E' ∧ X'.length ≤ 256 ∧ x = some (most, X', E') := by
  refine iter_ga (fun s => s.1 ≤ 200 ∧ s.2.1 = most ∧ InvS s.2.2.1 s.2.2.2 ∧ s.2.2.1.length ≤ 256) _ (fun s => 200 - s.1) ?_ 201 _ (by show 200 - 0 < 201; omega) ⟨Nat.zero_le _, rfl, hI, hX⟩
  rintro ⟨i, mo, X, E⟩ ⟨h1, h2, h, hX⟩
  dsimp only at h1 h2 h hX
  subst h2
  unfold lethelaw15_SkipsExact_l1
  dsimp only
  by_cases hi : i < script.length
  case neg => exact .inl ⟨_, ineg hi rfl, X, E, h, hX, rfl⟩
  by_cases hi2 : i < 200
  case neg => exact .inl ⟨_, ipos hi (ineg hi2 rfl), X, E, h, hX, rfl⟩
  have hb := hQ _ (mem_sc hi)
  have hlE := h.len
  suffices hs : ∃ X' E', InvS X' E' ∧ X'.length ≤ 256 ∧ lethelaw15_SkipsExact_l1 script mo true (i, mo, X, E) (.inl (i + 1, mo, X', E')) by
    obtain ⟨X', E', g1, g2, g3⟩ := hs
    exact .inr ⟨(i + 1, mo, X', E'), g3, ⟨by show i + 1 ≤ 200; omega, rfl, g1, g2⟩, by show 200 - (i + 1) < 200 - i; omega⟩
  unfold lethelaw15_SkipsExact_l1 lethelaw15_SkipsExact_l2
  dsimp only
  generalize script.getD i ((0 : Int), 0#32, 0#32, ([] : List Ky)) = S at hb
  obtain ⟨kind, turn, n, K⟩ := S
  dsimp only at hb ⊢
  by_cases k1 : kind = 1
  · obtain ⟨e, X', E', g1, g2, g3, g4⟩ := add_both h hm hX turn n (K := K) (by omega)
    refine ⟨X', E', g3, g4, ipos hi (ipos hi2 ⟨hi, true, mo, X', E', ipos k1 ?_, ipos rfl rfl⟩)⟩
    rw [sgl_pre]
    have hl2 : (([] ++ K) ++ [(upd (fun _ => 0#8) 0 (7#8)), (upd (fun _ => 0#8) 0 (8#8))]).length = K.length + 2 := by simp
    have q : ∀ j, j < 2 → (([] ++ K) ++ [(upd (fun _ => 0#8) 0 (7#8)), (upd (fun _ => 0#8) 0 (8#8))]).getD (K.length + j) zK = [(upd (fun _ => 0#8) 0 (7#8)), (upd (fun _ => 0#8) 0 (8#8))].getD j zK := fun j hj => by
      rw [List.nil_append, List.getD_eq_getElem?_getD, List.getElem?_append_right (by omega), show K.length + j - K.length = j by omega, List.getD_eq_getElem?_getD]
    have q0 := q 0 (by omega)
    have q1 := q 1 (by omega)
    rw [Nat.add_zero] at q0
    refine ⟨⟨by omega, by omega⟩, ⟨by show ((([] ++ K : List Ky)).length + 2) * 32 ≤ _; rw [List.nil_append]; exact hb, by show ((([] ++ K : List Ky)).length + 2) < _; rw [List.nil_append]; omega⟩, ⟨by omega, by rw [hl2]; omega⟩, e, X', g1, e, E', g2, ineg (fun hn => hn rfl) ⟨true, sameKX (by omega), ipos rfl ⟨by rw [hl2]; omega, ipos ?_ ⟨by omega, by rw [hl2]; omega, ipos ?_ ⟨?_, rfl, rfl, rfl, rfl⟩⟩⟩⟩⟩
    · rw [q0]; exact eqkX _
    · rw [q1]; exact eqkX _
    · obtain ⟨x, hx, -⟩ := iter_ga (step := fun (s : List Ky × Nat) (o : (List Ky × Nat) ⊕ Unit) => match s with | (k, i) => if i < K.length then ((i < K.length) ∧ ((i + 1) < 9223372036854775808) ∧ o = .inl ((k.set i (upd (fun _ => 0#8) 0 (238#8))), (i + 1))) else (o = .inr ())) (fun s => s.2 ≤ K.length) (fun _ => True) (fun s => K.length - s.2) (by
        rintro ⟨k, j⟩ hj
        by_cases hjl : j < K.length
        · exact .inr ⟨(_, j + 1), ipos (c := j < K.length) hjl ⟨hjl, by omega, rfl⟩, hjl, by show K.length - (j + 1) < K.length - j; omega⟩
        · exact .inl ⟨(), ineg (c := j < K.length) hjl rfl, trivial⟩) (K.length + 1) ((([] ++ K) ++ [(upd (fun _ => 0#8) 0 (7#8)), (upd (fun _ => 0#8) 0 (8#8))]), 0) (by show K.length - 0 < _; omega) (Nat.zero_le _)
      exact hx
  by_cases k2 : kind = 2
  · obtain ⟨k, e, g1, g2⟩ := find_both (most := mo) h hX turn n
    exact ⟨X, E, h, hX, ipos hi (ipos hi2 ⟨hi, true, mo, X, E, ineg k1 (ipos k2 ⟨k, e, g1, k, e, g2, ipos (eqkX _) ⟨(decide_eq_true rfl).symm, rfl, rfl, rfl⟩⟩), ipos rfl rfl⟩)⟩
  by_cases k3 : kind = 3
  · obtain ⟨k, e, X', E', g1, g2, g3, g4⟩ := take_both (most := mo) h hX turn n
    exact ⟨X', E', g3, by omega, ipos hi (ipos hi2 ⟨hi, true, mo, X', E', ineg k1 (ineg k2 (ipos k3 ⟨k, e, X', g1, k, e, E', g2, ipos (eqkX _) ⟨(decide_eq_true rfl).symm, rfl, rfl, rfl⟩⟩)), ipos rfl rfl⟩)⟩
  by_cases k4 : kind = 4
  · exact ⟨X, E, h, hX, ipos hi (ipos hi2 ⟨hi, true, mo, X, E, ineg k1 (ineg k2 (ineg k3 (ipos k4 ⟨_, rfl, ipos hlE.symm ⟨E, list_ok mo h.srt h.prm (by omega), true, sameX (by omega), rfl, rfl, rfl, rfl⟩⟩))), ipos rfl rfl⟩)⟩
  by_cases k5 : kind = 5
  · obtain ⟨k, e, X1, E1, g1, g2, g3, g4⟩ := take_both (most := mo) h hX turn n
    obtain ⟨e2, X2, E2, f1, f2, f3, f4⟩ := add_both g3 hm (by omega) turn n (K := [(upd (fun _ => 0#8) 0 (1#8))]) (by decide)
    exact ⟨X, E, h, hX, ipos hi (ipos hi2 ⟨hi, true, mo, X, E, ineg k1 (ineg k2 (ineg k3 (ineg k4 (ipos k5 ⟨mo, X, rfl, k, e, X1, g1, e2, X2, f1, rfl, rfl, rfl, rfl⟩)))), ipos rfl rfl⟩)⟩
  · exact ⟨X, E, h, hX, ipos hi (ipos hi2 ⟨hi, true, mo, X, E, ineg k1 (ineg k2 (ineg k3 (ineg k4 (ineg k5 ⟨rfl, rfl, rfl, rfl⟩)))), ipos rfl rfl⟩)⟩

theorem skipsExact_true (most : Int) (list : List Sk) (script : List Sc) (hL : (list.length + 2) * 40 ≤ 140737488355328) (hQ : ∀ x ∈ script, (x.2.2.2.length + 2) * 32 ≤ 140737488355328) : lethelaw15_SkipsExact most list script true := by
  unfold lethelaw15_SkipsExact
  refine ⟨true, ?_, fun _ => ⟨([] ++ list) ++ [((66#32, 0#32, zK) : Sk), (66#32, 0#32, zK)], ?_, ?_, ?_⟩⟩
  · by_cases hm : 0 ≤ most ∧ most ≤ 256
    · exact .inr ⟨_, _, _, new_ok hm, .inr ⟨_, _, _, rnewX hm, ineg (by decide) rfl⟩⟩
    · exact .inl ⟨2, (ldNew hm).1, .inl ⟨2, (ldNew hm).2, ineg (by decide) rfl⟩⟩
  · have hl2 : (([] ++ list : List Sk)).length + [((66#32, 0#32, zK) : Sk), (66#32, 0#32, zK)].length = list.length + 2 := by simp
    rw [hl2]
    exact ⟨⟨by omega, by omega⟩, ⟨hL, by omega⟩, ⟨by omega, by omega⟩, ⟨hL, by omega⟩, rfl⟩
  · exact ⟨Nat.zero_le _, by simp⟩
  rw [sgl_pre]
  have hl2 : ((([] ++ list) ++ [((66#32, 0#32, zK) : Sk), (66#32, 0#32, zK)]) : List Sk).length = list.length + 2 := by simp
  have m0 := mark_ok (l := list) (by omega) 0 (by omega)
  have m1 := mark_ok (l := list) (by omega) 1 (by omega)
  rw [Nat.add_zero] at m0
  have wr : Iter (lethelaw15_SkipsExact_l0 list) ((([] ++ list) ++ [((66#32, 0#32, zK) : Sk), (66#32, 0#32, zK)]), 0) () := by
    obtain ⟨⟨⟩, hx, -⟩ := iter_ga (step := lethelaw15_SkipsExact_l0 list) (fun s => s.2 ≤ list.length) (fun _ => True) (fun s => list.length - s.2) (by
      rintro ⟨k, j⟩ hj
      by_cases hjl : j < list.length
      · exact .inr ⟨(_, j + 1), ipos (c := j < list.length) hjl ⟨hjl, by omega, rfl⟩, hjl, by show list.length - (j + 1) < list.length - j; omega⟩
      · exact .inl ⟨(), ineg (c := j < list.length) hjl rfl, trivial⟩) (list.length + 1) ((([] ++ list) ++ [((66#32, 0#32, zK) : Sk), (66#32, 0#32, zK)]), 0) (by show list.length - 0 < _; omega) (Nat.zero_le _)
    exact hx
  have tail : ∀ (mo : Int) (X : List KV) (E : List Sk), mo ≤ 256 → InvS X E → X.length ≤ 256 → ∃ x, Iter (lethelaw15_SkipsExact_l1 script mo true) (0, mo, X, E) x ∧ ∀ (m1 : Int) (mp : List KV) (E1 : List Sk), x = some (m1, mp, E1) →
      ∃ q : Bool, (∃ n, skips_Table_Len m1 mp n ∧ if n = E1.length then (∃ y, skips_Table_List m1 mp y ∧ ∃ z, lethelaw15_sameList y E1 z ∧ q = z) else q = false) ∧ true = q := by
    intro mo X E hm h hX
    obtain ⟨x, hx, X', E', g1, g2, rfl⟩ := loop_ok script mo hm hQ h hX
    refine ⟨_, hx, fun m1 mp E1 he => ?_⟩
    have he := Option.some.inj he
    obtain ⟨rfl, rfl, rfl⟩ : mo = m1 ∧ X' = mp ∧ E' = E1 := ⟨congrArg Prod.fst he, congrArg (fun z => z.2.1) he, congrArg (fun z => z.2.2) he⟩
    have hlE := g1.len
    exact ⟨true, ⟨_, rfl, ipos hlE.symm ⟨E', list_ok mo g1.srt g1.prm (by omega), true, sameX (by omega), rfl⟩⟩, rfl⟩
  rw [m0, m1, hl2]
  rcases load_both (most := most) (l := list) (by omega) with ⟨e, h1, h2⟩ | ⟨hm, X, h1, h2, h3, h4⟩
  · have h4 : (0 : Int) ≤ 4 ∧ (4 : Int) ≤ 256 := ⟨by decide, by decide⟩
    refine ⟨true, 4, [], [], 4, .inl ⟨e, h1, .inl ⟨e, h2, ⟨false, ineg (fun h => h rfl) ⟨true, sameX (by omega), ipos rfl ⟨by omega, ipos marks ⟨by omega, by omega, by rw [marks]; rfl⟩⟩⟩, ineg (by decide) (.inr ⟨_, _, _, new_ok h4, .inr ⟨_, _, _, rnewX h4, ineg (by decide) (ineg (by decide) ⟨rfl, rfl, rfl, rfl, rfl⟩)⟩⟩)⟩⟩⟩, fun _ => ⟨wr, tail 4 [] [] (by decide) ⟨.nil, .refl _⟩ (by decide)⟩⟩
  · refine ⟨true, most, X, list, most, .inr ⟨_, _, _, h1, .inr ⟨_, _, _, h2, ⟨false, ineg (fun h => h rfl) ⟨true, sameX (by omega), ipos rfl ⟨by omega, ipos marks ⟨by omega, by omega, by rw [marks]; rfl⟩⟩⟩, ineg (by decide) ⟨rfl, rfl, rfl, rfl, rfl⟩⟩⟩⟩, fun _ => ⟨wr, tail most X list hm.2 h3 h4⟩⟩
end Go.Proofs.Ytbkgblhmlenocaa
