/-
  PLAIN (own work): what is added is found, taken once, and gone; what is left is what was added and not taken, in order.
-/
import Derived.Test.YtbkgblhmlenocaaPm
import Derived.Test.YtbkgblhmlenocaaRSkipsOnce
namespace Go.Proofs.Ytbkgblhmlenocaa
set_option linter.unusedSimpArgs false
set_option linter.unusedVariables false
set_option linter.unusedSectionVars false
open Go Go.LW

section once
variable (K : List Ky)
/-- the keys of turn 3 that are left -/
def leftI (left : List Bool) (n : Nat) : List Nat := (List.range n).filter fun i => left.getD i false
def e3 (i : Nat) : KV := ((3#32, 7#32 + BitVec.ofNat 32 i), K.getD i zK)
def stM (left : List Bool) : List KV := (leftI left K.length).map (e3 K) ++ ents 2#32 9#32 K K.length
variable {K}
theorem stM_keys {left : List Bool} {k : Pl} : k ∈ (stM K left).map (·.1) ↔ (∃ i, i < K.length ∧ left.getD i false = true ∧ k = (3#32, 7#32 + BitVec.ofNat 32 i)) ∨ ∃ j, j < K.length ∧ k = (2#32, 9#32 + BitVec.ofNat 32 j) := by
  unfold stM
  rw [List.map_append, List.mem_append, ents_keys]
  refine or_congr ?_ Iff.rfl
  simp only [leftI, e3, List.map_map, List.mem_map, List.mem_filter, List.mem_range, Function.comp_def]
  exact ⟨fun ⟨i, ⟨h1, h2⟩, e⟩ => ⟨i, h1, h2, e.symm⟩, fun ⟨i, h1, h2, e⟩ => ⟨i, ⟨h1, h2⟩, e.symm⟩⟩
theorem stM_nodup (hn : K.length ≤ 1000) (left : List Bool) : ((stM K left).map (·.1)).Nodup := by
  unfold stM
  rw [List.map_append, List.nodup_append]
  refine ⟨?_, ents_nodup hn, fun a ha b hb he => ?_⟩
  · rw [List.map_map]
    refine List.pairwise_map.2 (((List.pairwise_lt_range (n := K.length)).filter _).imp_of_mem fun {a b} ha hb hab he => ?_)
    have ha := List.mem_range.1 (List.mem_filter.1 ha).1; have hb := List.mem_range.1 (List.mem_filter.1 hb).1
    have := off_inj (by omega) (by omega) (congrArg Prod.snd he)
    omega
  · obtain ⟨j, _, rfl⟩ := ents_keys.1 hb
    obtain ⟨p, hp, hq⟩ := List.mem_map.1 ha
    obtain ⟨i, _, rfl⟩ := List.mem_map.1 hp
    have : (3#32 : BitVec 32) = 2#32 := congrArg Prod.fst (hq.trans he)
    exact absurd this (by decide)
theorem stM_get (hn : K.length ≤ 1000) {left : List Bool} {k : Nat} (hk : k < K.length) (hl : left.getD k false = true) : mget (3#32, 7#32 + BitVec.ofNat 32 k) (stM K left) = some (K.getD k zK) :=
  mget_mem (List.mem_append_left _ (List.mem_map.2 ⟨k, List.mem_filter.2 ⟨List.mem_range.2 hk, hl⟩, rfl⟩)) (stM_nodup hn left)
theorem stM_no (hn : K.length ≤ 1000) {left : List Bool} {k : Nat} (hk : k < K.length) (hl : left.getD k false = false) : mget (3#32, 7#32 + BitVec.ofNat 32 k) (stM K left) = none := by
  rw [mget_none, stM_keys]
  rintro (⟨i, hi, h1, h2⟩ | ⟨j, _, h2⟩)
  · have := off_inj (by omega) (by omega) (congrArg Prod.snd h2)
    subst this
    rw [hl] at h1; cases h1
  · exact absurd (show 3#32 = 2#32 from congrArg Prod.fst h2) (by decide)
theorem stM_del (hn : K.length ≤ 1000) {left : List Bool} {k : Nat} (hk : k < K.length) (hl : left.length = K.length) : mdel (3#32, 7#32 + BitVec.ofNat 32 k) (stM K left) = stM K (left.set k false) := by
  rw [mdel_filter (stM_nodup hn left)]
  unfold stM
  rw [List.filter_append]
  congr 1
  · rw [List.filter_map]
    congr 1
    unfold leftI
    rw [List.filter_filter]
    refine List.filter_congr fun i hi => ?_
    have hi := List.mem_range.1 hi
    have e : decide ((e3 K i).1 ≠ (3#32, 7#32 + BitVec.ofNat 32 k)) = decide (i ≠ k) := by
      refine decide_eq_decide.2 (not_congr ⟨fun h => off_inj (by omega) (by omega) (congrArg Prod.snd h), fun h => by rw [h]; rfl⟩)
    show (decide ((e3 K i).1 ≠ _) && left.getD i false) = _
    rw [e]
    simp only [List.getD_eq_getElem?_getD, List.getElem?_set]
    by_cases hik : i = k
    · subst hik; simp [hl, hk]
    · rw [if_neg (Ne.symm hik)]; simp [hik]
  · refine List.filter_eq_self.2 fun p hp => ?_
    obtain ⟨j, _, rfl⟩ := List.mem_map.1 hp
    simp only [ne_eq, decide_eq_true_eq]
    exact fun h => absurd (show 2#32 = 3#32 from congrArg Prod.fst h) (by decide)
def lst (K : List Ky) (left : List Bool) : List Sk := (ents 2#32 9#32 K K.length).map fl ++ (leftI left K.length).map fun i => fl (e3 K i)
theorem lst_list (hn : K.length ≤ 100) (left : List Bool) : skips_Table_List 64 (stM K left) (lst K left) := by
  have hlen : (leftI left K.length).length ≤ K.length := by
    have := List.length_filter_le (fun i => left.getD i false) (List.range K.length); rw [List.length_range] at this; exact this
  refine list_ok 64 ?_ ?_ (by unfold stM; rw [List.length_append, List.length_map, ents_length]; omega)
  · unfold lst
    refine List.pairwise_append.2 ⟨ents_sorted (by have : (9#32).toNat = 9 := rfl; omega), ?_, fun a ha b hb => ?_⟩
    · refine List.pairwise_map.2 (((List.pairwise_lt_range (n := K.length)).filter _).imp_of_mem fun {a b} ha hb hab => ?_)
      have ha := List.mem_range.1 (List.mem_filter.1 ha).1; have hb := List.mem_range.1 (List.mem_filter.1 hb).1
      refine .inr ⟨rfl, ?_⟩
      have h7 : (7#32).toNat = 7 := rfl
      show (7#32 + BitVec.ofNat 32 a).toNat < (7#32 + BitVec.ofNat 32 b).toNat
      rw [off_nat (by omega), off_nat (by omega)]; omega
    · obtain ⟨p, hp, rfl⟩ := List.mem_map.1 ha
      obtain ⟨j, _, rfl⟩ := List.mem_map.1 hp
      obtain ⟨i, _, rfl⟩ := List.mem_map.1 hb
      exact .inl (show (2#32).toNat < (3#32).toNat by decide)
  · unfold lst stM
    rw [List.map_append, List.map_map]
    exact List.perm_append_comm
/-- the i-th is the next one that is left -/
theorem filter_at {p : Nat → Bool} : ∀ {n i : Nat}, i < n → p i = true → ((List.range n).filter p)[((List.range i).filter p).length]? = some i
  | n + 1, i, hi, hp => by
    rw [List.range_succ, List.filter_append]
    by_cases h : i < n
    · have h1 := filter_at (n := n) h hp
      rw [List.getElem?_append_left (List.getElem?_eq_some_iff.1 h1).1]; exact h1
    · obtain rfl : i = n := by omega
      rw [List.getElem?_append_right (Nat.le_refl _), Nat.sub_self, List.filter_cons, if_pos hp]; rfl

theorem skipsOnce_true (keys : List Ky) (take : List Int) (hQ : ∀ x ∈ take, IntKind.i64.has x) : lethelaw15_SkipsOnce keys take true := by
  refine .inr ⟨64, [], 0, new_ok (by decide), ineg (by decide) ?_⟩
  obtain ⟨keys37, h37, hk⟩ : ∃ keys37 : List Ky, (if 30 < keys.length then ((0 ≤ 30 ∧ 30 ≤ keys.length) ∧ keys37 = sgl keys 0 30) else keys37 = keys) ∧ keys37.length ≤ 30 := by
    by_cases h : 30 < keys.length
    · exact ⟨_, ipos h ⟨⟨by omega, by omega⟩, rfl⟩, by rw [sgl_length ⟨by omega, by omega⟩]; omega⟩
    · exact ⟨_, ineg h rfl, by omega⟩
  refine ⟨keys37, h37, ⟨by show (1 + keys37.length) * 32 ≤ _; omega, by show 1 + keys37.length < _; omega⟩, ?_⟩
  obtain ⟨K, hK⟩ : ∃ K : List Ky, K = ([(upd (fun _ => 0#8) 0 (1#8))] : List (Nat → BitVec 8)) ++ keys37 := ⟨_, rfl⟩
  have hKl : K.length = keys37.length + 1 := by rw [hK]; simp
  have h7 : (7#32).toNat = 7 := rfl
  have h9 : (9#32).toNat = 9 := rfl
  have hadd : skips_Table_Add 64 [] 3#32 7#32 K (0, [] ++ ents 3#32 7#32 K K.length) := add_ok (by omega) (by omega) (by decide) (by omega) (fun _ _ => rfl) (by simp; omega)
  rw [List.nil_append] at hadd
  have hadd2 : skips_Table_Add 64 (ents 3#32 7#32 K K.length) 2#32 9#32 K (0, ents 3#32 7#32 K K.length ++ ents 2#32 9#32 K K.length) := add_ok (by omega) (by omega) (by rw [ents_length]; omega) (by omega) (fun i hi => by
    rw [mget_none]
    intro hm
    obtain ⟨j, _, hj⟩ := ents_keys.1 hm
    exact absurd (show 2#32 = 3#32 from congrArg Prod.fst hj) (by decide)) (by rw [ents_length]; omega)
  obtain ⟨allT, hT⟩ : ∃ l : List Bool, l = (List.range K.length).map fun _ => true := ⟨_, rfl⟩
  have hTl : allT.length = K.length := by rw [hT]; simp
  have hX : ents 3#32 7#32 K K.length ++ ents 2#32 9#32 K K.length = stM K allT := by
    unfold stM
    congr 1
    have : leftI allT K.length = List.range K.length := by
      unfold leftI
      refine List.filter_eq_self.2 fun i hi => ?_
      have hi := List.mem_range.1 hi
      rw [hT, List.getD_eq_getElem?_getD, List.getElem?_map, List.getElem?_range hi]; rfl
    rw [this]; rfl
  rw [hX] at hadd2
  rw [← hK]
  have hXl : (stM K allT).length = 2 * K.length := by rw [← hX, List.length_append, ents_length, ents_length]; omega
  have hg0 : (mget (3#32, 7#32 + BitVec.ofNat 32 0) (stM K allT)).isSome = true := by
    rw [stM_get (by omega) (k := 0) (by omega) (by rw [hT, List.getD_eq_getElem?_getD, List.getElem?_map, List.getElem?_range (by omega)]; rfl)]; rfl
  refine ⟨_, _, hadd, ineg (by decide) ⟨_, _, hadd2, ineg (by decide) ⟨_, rfl, by omega, ineg (by omega) ⟨_, _, add_twice (by decide) (by decide) (by decide) hg0, ineg (by decide) ⟨_, _, add_counter (by decide) (by decide) (by decide), ineg (by decide) ⟨⟨Nat.le_refl _, by omega⟩, allT, ?_, ?_⟩⟩⟩⟩⟩⟩
  · have hrl : (List.replicate K.length false).length = K.length := List.length_replicate
    refine Iter.count (fun i => (mkl (fun _ => true) (List.replicate K.length false) i, i)) K.length (fun i hi => ?_) ?_
    · have hl : (mkl (fun _ => true) (List.replicate K.length false) i).length = K.length := by rw [mkl_length _ _ (by omega), hrl]
      unfold lethelaw15_SkipsOnce_l0
      dsimp only
      rw [← hK]
      refine ipos hi ⟨by omega, by omega, ?_⟩
      rw [← mkl_set (fun _ => true) _ (by omega)]
    · unfold lethelaw15_SkipsOnce_l0
      dsimp only
      rw [← hK]
      refine ineg (Nat.lt_irrefl _) ?_
      have := mkl_all (fun _ => true) (List.replicate K.length false)
      rw [hrl] at this
      rw [this, hT]
  obtain ⟨x, hx, left, hleft, rfl⟩ : ∃ x, Iter (lethelaw15_SkipsOnce_l1 take 64 keys37 true) (stM K allT, allT, 0) x ∧ ∃ left : List Bool, left.length = K.length ∧ x = some (stM K left, left) := by
    refine iter_ga (fun s => s.1 = stM K s.2.1 ∧ s.2.1.length = K.length ∧ s.2.2 ≤ 60) _ (fun s => 60 - s.2.2) ?_ 61 _ (by show 60 - 0 < 61; omega) ⟨rfl, hTl, Nat.zero_le _⟩
    rintro ⟨mp, left, i⟩ ⟨h1, h2, h3⟩
    dsimp only at h1 h2 h3
    subst h1
    unfold lethelaw15_SkipsOnce_l1
    dsimp only
    rw [← hK]
    by_cases hi : i < take.length
    · by_cases hi6 : i < 60
      · right
        have hm : 0 ≤ max (take.getD i (0 : Int)) (w64 (-(w64 (take.getD i (0 : Int) + 1)))) := by
          refine fold_w64 (wf_has (hQ _ ?_))
          rw [List.getD_eq_getElem?_getD, List.getElem?_eq_getElem hi]
          exact List.getElem_mem hi
        obtain ⟨k, hkn, hk0⟩ : ∃ k : Nat, (max (take.getD i (0 : Int)) (w64 (-(w64 (take.getD i (0 : Int) + 1))))).tmod ((K.length : Nat) : Int) = (k : Int) ∧ k < K.length := by
          refine ⟨((max (take.getD i (0 : Int)) (w64 (-(w64 (take.getD i (0 : Int) + 1))))).tmod ((K.length : Nat) : Int)).toNat, ?_, ?_⟩
          · rw [Int.toNat_of_nonneg (Int.tmod_nonneg _ hm)]
          · have h4 := Int.tmod_lt_of_pos (max (take.getD i (0 : Int)) (w64 (-(w64 (take.getD i (0 : Int) + 1))))) (show (0 : Int) < ((K.length : Nat) : Int) by omega)
            have h5 := Int.tmod_nonneg ((K.length : Nat) : Int) hm
            omega
        rw [hkn]
        have hof : BitVec.ofInt 32 (k : Int) = BitVec.ofNat 32 k := BitVec.ofInt_natCast ..
        rw [hof, Int.toNat_natCast]
        by_cases hl : left.getD k false = true
        · refine ⟨_, ipos hi (ipos hi6 ⟨hi, hi, by omega, _, _, find_ok (stM_get (by omega) hk0 hl), _, _, _, take_ok (stM_get (by omega) hk0 hl), ⟨by omega, by omega⟩, ipos hl ⟨⟨by omega, by omega⟩, ineg (by decide) (ineg (by decide) ⟨⟨by omega, by omega⟩, ipos (eqk _) ⟨⟨by omega, by omega⟩, ipos (eqk _) rfl⟩⟩)⟩⟩), ⟨stM_del (by omega) hk0 h2, by show (left.set k false).length = _; rw [List.length_set]; exact h2, by show i + 1 ≤ 60; omega⟩, by show 60 - (i + 1) < 60 - i; omega⟩
        · have hl' : left.getD k false = false := by simpa using hl
          refine ⟨_, ipos hi (ipos hi6 ⟨hi, hi, by omega, _, _, find_no (stM_no (by omega) hk0 hl'), _, _, _, take_no (stM_no (by omega) hk0 hl'), ⟨by omega, by omega⟩, ineg hl (ineg (by decide) (ineg (by decide) rfl))⟩), ⟨rfl, h2, by show i + 1 ≤ 60; omega⟩, by show 60 - (i + 1) < 60 - i; omega⟩
      · exact .inl ⟨_, ipos hi (ineg hi6 rfl), left, h2, rfl⟩
    · exact .inl ⟨_, ineg hi rfl, left, h2, rfl⟩
  refine ⟨_, hx, fun mp0 left0 h0 => ?_⟩
  obtain ⟨rfl, rfl⟩ : mp0 = stM K left ∧ left0 = left := by
    have := Option.some.inj h0
    exact ⟨(congrArg Prod.fst this).symm, (congrArg Prod.snd this).symm⟩
  have hEl : (lst K left0).length = K.length + (leftI left0 K.length).length := by unfold lst; rw [List.length_append, List.length_map, List.length_map, ents_length]
  have hle : (leftI left0 K.length).length ≤ K.length := by
    have := List.length_filter_le (fun i => left0.getD i false) (List.range K.length); rw [List.length_range] at this; exact this
  refine ⟨lst K left0, lst_list (by omega) left0, ?_⟩
  try rw [← hK]
  refine ineg (by omega) ⟨some (), Iter.count (fun i => i) K.length (fun i hi => ?_) ?_, fun _ => ⟨some (K.length + (leftI left0 K.length).length), ?_, fun m hm => ?_⟩⟩
  · unfold lethelaw15_SkipsOnce_l2
    rw [← hK]
    have e : (lst K left0).getD i (0#32, 0#32, zK) = (2#32, 9#32 + BitVec.ofNat 32 i, K.getD i zK) := by
      unfold lst
      rw [List.getD_eq_getElem?_getD, List.getElem?_append_left (by rw [List.length_map, ents_length]; exact hi), List.getElem?_map]
      unfold ents
      rw [List.getElem?_map, List.getElem?_range hi]; rfl
    refine ipos hi ⟨by omega, hi, ipos ?_ ⟨by omega, rfl⟩⟩
    rw [e, eqk, decide_eq_true rfl, decide_eq_true rfl]; rfl
  · unfold lethelaw15_SkipsOnce_l2
    rw [← hK]
    exact ineg (Nat.lt_irrefl _) rfl
  · have key : Iter (lethelaw15_SkipsOnce_l3 keys37 left0 (lst K left0) true) (K.length + ((List.range 0).filter fun i => left0.getD i false).length, 0) (some (K.length + (leftI left0 K.length).length)) := by
      refine Iter.count (fun i => (K.length + ((List.range i).filter fun i => left0.getD i false).length, i)) K.length (fun i hi => ?_) ?_
      · unfold lethelaw15_SkipsOnce_l3
        dsimp only
        rw [← hK]
        refine ipos hi ⟨by omega, ?_⟩
        by_cases hl : left0.getD i false = true
        · have h5 := filter_at (p := fun i => left0.getD i false) hi hl
          have h6 := (List.getElem?_eq_some_iff.1 h5).1
          have h6' : ((List.range i).filter fun i => left0.getD i false).length < (leftI left0 K.length).length := h6
          have e : (lst K left0).getD (K.length + ((List.range i).filter fun i => left0.getD i false).length) (0#32, 0#32, zK) = (3#32, 7#32 + BitVec.ofNat 32 i, K.getD i zK) := by
            unfold lst
            rw [List.getD_eq_getElem?_getD, List.getElem?_append_right (by rw [List.length_map, ents_length]; omega), List.length_map, ents_length, Nat.add_sub_cancel_left, List.getElem?_map]
            unfold leftI
            rw [h5]; rfl
          refine ipos hl (ineg (by omega) ⟨by omega, hi, ipos ?_ ⟨by omega, by omega, ?_⟩⟩)
          · rw [e, eqk, decide_eq_true rfl, decide_eq_true rfl]; rfl
          · rw [List.range_succ, List.filter_append, List.length_append, List.filter_cons, if_pos hl]; rfl
        · refine ineg hl ⟨by omega, ?_⟩
          rw [List.range_succ, List.filter_append, List.length_append, List.filter_cons, if_neg hl]; rfl
      · unfold lethelaw15_SkipsOnce_l3
        dsimp only
        rw [← hK]
        exact ineg (Nat.lt_irrefl _) rfl
    exact key
  · have hm' := (Option.some.inj hm).symm
    subst hm'
    refine ipos hEl.symm ⟨_, rfl, (decide_eq_true ?_).symm⟩
    unfold stM
    rw [List.length_append, List.length_map, ents_length]; omega
end once
end Go.Proofs.Ytbkgblhmlenocaa
