/-
  PLAIN (own work): lists of skipped keys that are handed out are the caller's; a copy goes on by itself.
-/
import Derived.Test.YtbkgblhmlenocaaPm
import Derived.Test.YtbkgblhmlenocaaRLaw15
import Derived.Test.YtbkgblhmlenocaaRSkipsHands
namespace Go.Proofs.Ytbkgblhmlenocaa
set_option linter.unusedSimpArgs false
set_option linter.unusedVariables false
set_option linter.unusedSectionVars false
open Go Go.LW

theorem ents_length (turn first : BitVec 32) (keys : List Ky) (n : Nat) : (ents turn first keys n).length = n := by simp [ents]
theorem ents_keys {turn first : BitVec 32} {keys : List Ky} {n : Nat} {k : Pl} : k ∈ (ents turn first keys n).map (·.1) ↔ ∃ j, j < n ∧ k = (turn, first + BitVec.ofNat 32 j) := by
  simp only [ents, List.map_map, List.mem_map, List.mem_range, Function.comp_def]
  exact ⟨fun ⟨j, h, e⟩ => ⟨j, h, e.symm⟩, fun ⟨j, h, e⟩ => ⟨j, h, e.symm⟩⟩
theorem ents_nodup {turn first : BitVec 32} {keys : List Ky} {n : Nat} (h : n ≤ 1000) : ((ents turn first keys n).map (·.1)).Nodup := by
  have e : (ents turn first keys n).map (·.1) = (List.range n).map fun j => (turn, first + BitVec.ofNat 32 j) := by simp [ents, Function.comp_def]
  rw [e]
  refine List.pairwise_map.2 ((List.pairwise_lt_range (n := n)).imp_of_mem fun {a b} ha hb hab he => ?_)
  have ha := List.mem_range.1 ha; have hb := List.mem_range.1 hb
  have := off_inj (by omega) (by omega) (congrArg Prod.snd he)
  omega
theorem off_nat {first : BitVec 32} {j : Nat} (h : first.toNat + j < 4294967296) : (first + BitVec.ofNat 32 j).toNat = first.toNat + j := by
  simp only [BitVec.toNat_add, BitVec.toNat_ofNat]; omega
theorem ents_sorted {turn first : BitVec 32} {keys : List Ky} {n : Nat} (h : first.toNat + n ≤ 4294967296) : ((ents turn first keys n).map fl).Pairwise ltS := by
  have e : (ents turn first keys n).map fl = (List.range n).map fun j => ((turn, first + BitVec.ofNat 32 j, keys.getD j zK) : Sk) := by simp [ents, Function.comp_def, fl]
  rw [e]
  refine List.pairwise_map.2 ((List.pairwise_lt_range (n := n)).imp_of_mem fun {a b} ha hb hab => ?_)
  have ha := List.mem_range.1 ha; have hb := List.mem_range.1 hb
  refine .inr ⟨rfl, ?_⟩
  rw [off_nat (by omega), off_nat (by omega)]; omega
theorem ents_get {turn first : BitVec 32} {keys : List Ky} {n j : Nat} (hn : n ≤ 1000) (hj : j < n) : mget (turn, first + BitVec.ofNat 32 j) (ents turn first keys n) = some (keys.getD j zK) :=
  mget_mem (List.mem_map.2 ⟨j, List.mem_range.2 hj, rfl⟩) (ents_nodup hn)
theorem mdel_length {κ α : Type} [DecidableEq κ] {k : κ} : ∀ {X : List (κ × α)}, (mget k X).isSome = true → (mdel k X).length + 1 = X.length
  | [], h => by cases h
  | p :: X, h => by
    simp only [mget] at h
    simp only [mdel]
    by_cases hk : k = p.1
    · rw [if_pos hk]; rfl
    · rw [if_neg hk] at h ⊢
      rw [List.length_cons, List.length_cons, mdel_length h]
theorem mdel_keys {κ α : Type} [DecidableEq κ] {k k' : κ} : ∀ {X : List (κ × α)}, k' ∈ (mdel k X).map (·.1) → k' ∈ X.map (·.1)
  | [], h => h
  | p :: X, h => by
    simp only [mdel] at h
    by_cases hk : k = p.1
    · rw [if_pos hk] at h; exact List.mem_cons_of_mem _ h
    · rw [if_neg hk, List.map_cons, List.mem_cons] at h
      rcases h with h | h
      · exact h ▸ List.mem_cons_self
      · exact List.mem_cons_of_mem _ (mdel_keys h)
theorem eqk (k : Ky) : eqB 32 k k = true := eqB_iff.2 fun _ _ => rfl
theorem same_refl {a b : List Sk} (h : a = b) (hl : a.length ≤ 1000) : lethelaw15_sameList a b true := by
  subst h
  refine ineg (by simp) ⟨some (), Iter.count (fun i => i) a.length (fun i hi => ipos hi ⟨hi, hi, ipos ?_ ⟨by omega, rfl⟩⟩) (ineg (Nat.lt_irrefl _) rfl), fun _ => rfl⟩
  rw [decide_eq_true rfl, decide_eq_true rfl, eqk]; rfl

theorem skipsHands_true (keys : List Ky) (mark : BitVec 32) : lethelaw15_SkipsHands keys mark true := by
  refine .inr ⟨64, [], 0, new_ok (by decide), ineg (by decide) ?_⟩
  obtain ⟨keys37, h37, hk⟩ : ∃ keys37 : List Ky, (if 30 < keys.length then ((0 ≤ 30 ∧ 30 ≤ keys.length) ∧ keys37 = sgl keys 0 30) else keys37 = keys) ∧ keys37.length ≤ 30 := by
    by_cases h : 30 < keys.length
    · exact ⟨_, ipos h ⟨⟨by omega, by omega⟩, rfl⟩, by rw [sgl_length ⟨by omega, by omega⟩]; omega⟩
    · exact ⟨_, ineg h rfl, by omega⟩
  refine ⟨keys37, h37, ⟨by show (2 + keys37.length) * 32 ≤ _; omega, by show 2 + keys37.length < _; omega⟩, ?_⟩
  generalize hK : ([(upd (fun _ => 0#8) 0 (1#8)), (upd (fun _ => 0#8) 0 (2#8))] : List (Nat → BitVec 8)) ++ keys37 = K
  have hKl : K.length = keys37.length + 2 := by rw [← hK]; simp
  have hz : (0#32).toNat = 0 := rfl
  have hadd : skips_Table_Add 64 [] 0#32 0#32 K (0, [] ++ ents 0#32 0#32 K K.length) := add_ok (by omega) (by omega) (by decide) (by rw [hz]; omega) (fun _ _ => rfl) (by simp; omega)
  rw [List.nil_append] at hadd
  generalize hX : ents 0#32 0#32 K K.length = X at hadd
  have hXl : X.length = K.length := by rw [← hX, ents_length]
  have hE : (X.map fl).Pairwise ltS := by rw [← hX]; exact ents_sorted (by rw [hz]; omega)
  have hlist : ∀ m, skips_Table_List m X (X.map fl) := fun m => list_ok m hE (.refl _) (by omega)
  have hEl : (X.map fl).length = K.length := by rw [List.length_map, hXl]
  generalize hEE : X.map fl = E at hE hlist hEl
  have hget : mget (0#32, 0#32) X = some (K.getD 0 zK) := by
    have := ents_get (turn := 0#32) (first := 0#32) (keys := K) (n := K.length) (j := 0) (by omega) (by omega)
    rw [hX] at this; exact this
  refine ⟨_, _, hadd, ineg (by decide) ⟨_, _, rfl, _, hlist _, _, hlist _, ineg (by omega) (ineg (by omega) ⟨⟨by omega, by omega⟩, ?_⟩)⟩⟩
  have hb : Iter (lethelaw15_SkipsHands_l0 mark) (E, 0) ((List.range E.length).map fun i => ((mark, BitVec.ofNat 32 i, zK) : Sk)) := by
    refine Iter.count (fun i => (mkl (fun i => ((mark, BitVec.ofNat 32 i, zK) : Sk)) E i, i)) E.length (fun i hi => ?_) ?_
    · refine ipos (by rw [mkl_length _ _ (by omega)]; exact hi) ⟨by rw [mkl_length _ _ (by omega)]; exact hi, by omega, ?_⟩
      rw [← mkl_set _ _ hi]
    · refine ineg (by rw [mkl_length _ _ (Nat.le_refl _)]; exact Nat.lt_irrefl _) ?_
      rw [mkl_all]
  generalize hB : (List.range E.length).map (fun i => ((mark, BitVec.ofNat 32 i, zK) : Sk)) = b at hb
  have hbl : b.length = K.length := by rw [← hB]; simp [hEl]
  have hsame : lethelaw15_sameList E ([] ++ E) true := same_refl rfl (by omega)
  have htk := take_ok (most := 64) hget
  have hdl : (mdel (0#32, 0#32) X).length + 1 = K.length := by rw [mdel_length (by rw [hget]; rfl), hXl]
  have hno : ∀ i, i < 1 → mget (9#32, 9#32 + BitVec.ofNat 32 i) (mdel (0#32, 0#32) X) = none := fun i hi => by
    rw [mget_none]
    intro hm
    have := mdel_keys hm
    rw [← hX] at this
    obtain ⟨j, _, hj⟩ := ents_keys.1 this
    exact absurd (show 9#32 = 0#32 from congrArg Prod.fst hj) (by decide)
  have hadd2 : skips_Table_Add 64 (mdel (0#32, 0#32) X) 9#32 9#32 [(upd (fun _ => 0#8) 0 (9#8))] (0, mdel (0#32, 0#32) X ++ ents 9#32 9#32 [(upd (fun _ => 0#8) 0 (9#8))] 1) :=
    add_ok (by decide) (by decide) (by omega) (by decide) hno (by simp; omega)
  refine ⟨b, hb, ⟨by show (b.length + 1) * 40 ≤ _; omega, by show b.length + 1 < _; omega⟩, true, hsame, ipos rfl ⟨_, _, _, htk, _, _, hadd2, _, hlist _, false, ?_, ineg (by decide) ⟨some (), Iter.count (fun i => i) b.length (fun i hi => ipos hi ⟨hi, ipos ?_ ⟨by omega, rfl⟩⟩) (ineg (Nat.lt_irrefl _) rfl), fun _ => rfl⟩⟩⟩
  · refine ineg (by decide) (ineg (by decide) ⟨true, hsame, ipos rfl ⟨true, hsame, ipos rfl ⟨_, rfl, ineg (by omega) ⟨_, rfl, ineg ?_ ⟨by rw [List.length_append]; exact Nat.lt_succ_self _, ?_⟩⟩⟩⟩⟩)
    · rw [List.length_append, ents_length]; omega
    · have e : (b ++ [(mark, 999#32, zK)]).getD b.length (0#32, 0#32, zK) = (mark, 999#32, zK) := by
        rw [List.getD_eq_getElem?_getD, List.getElem?_append_right (Nat.le_refl _), Nat.sub_self]; rfl
      rw [e, eqk, decide_eq_true rfl, decide_eq_true rfl]; rfl
  · have e : b.getD i (0#32, 0#32, zK) = (mark, BitVec.ofNat 32 i, zK) := by
      rw [← hB] at hi ⊢
      rw [List.length_map, List.length_range] at hi
      rw [List.getD_eq_getElem?_getD, List.getElem?_map, List.getElem?_range hi]; rfl
    rw [e, eqk, decide_eq_true rfl, decide_eq_true rfl]; rfl
theorem skipsHands_plain (keys : List Ky) (mark : BitVec 32) : lethelaw15_SkipsHands keys mark true := skipsHands_true keys mark
end Go.Proofs.Ytbkgblhmlenocaa
