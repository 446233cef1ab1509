/-
  PLAIN LAW OF CurveExact (own work): every call's answer is the document's.
-/
import Derived.Test.YtjblfkmmbpcpaaaDoorPm
import Derived.Test.YtjblfkmmbpcpaaaDoorRCurveExact
namespace Go.Proofs.YtjblfkmmbpcpaaaDoor
set_option linter.unusedSimpArgs false
set_option linter.unusedVariables false
set_option linter.unusedSectionVars false
open Go Go.LW
set_option maxRecDepth 10000

theorem num_eqB {a b : Nat → BitVec 8} {x : Nat} (ha : numB a 32 = x) (hb : numB b 32 = x) : eqB 32 a b = true := eqB_iffN.2 (by rw [ha, hb])
theorem pub_both (k : Nat → BitVec 8) : ∃ a b, curve_Public k a ∧ letheref07_Public k b ∧ eqB 32 a b = true := by
  obtain ⟨a, h1, h2⟩ := times_rp k (upd (fun _ => 0#8) 0 9#8)
  obtain ⟨b, h3, h4⟩ := times7 k (upd (fun _ => 0#8) 0 9#8)
  exact ⟨a, b, ⟨_, h1, rfl⟩, ⟨_, h3, rfl⟩, num_eqB h2 h4⟩
theorem shared_both (k u : Nat → BitVec 8) : ∃ a b e, curve_Shared k u (a, e) ∧ letheref07_Shared k u (b, e) ∧ eqB 32 a b = true := by
  obtain ⟨a, h1, h2⟩ := times_rp k u
  obtain ⟨b, h3, h4⟩ := times7 k u
  have hab := num_eqB h2 h4
  by_cases hz : eqB 32 a (fun _ => 0#8) = true
  · have hz' : eqB 32 b (fun _ => 0#8) = true := eqB_iffN.2 (by rw [h4, ← h2]; exact eqB_iffN.1 hz)
    exact ⟨a, fun _ => 0#8, 70, ⟨a, h1, by rw [if_pos hz]⟩, ⟨b, h3, by rw [if_pos hz']⟩, hz⟩
  · have hz' : ¬ eqB 32 b (fun _ => 0#8) = true := fun h => hz (eqB_iffN.2 (by rw [h2, ← h4]; exact eqB_iffN.1 h))
    exact ⟨a, b, 0, ⟨a, h1, by rw [if_neg hz]⟩, ⟨b, h3, by rw [if_neg hz']⟩, hab⟩
theorem draw7 {d : List Byte} (h : d.length = 32) : Iter (letheref07_NewPair_l0 d) (0, (fun _ => 0#8)) (lit d) := by
  have e0 : (fun _ => 0#8) = fun q => if q < 0 then lit d q else 0#8 := by funext q; rw [if_neg (by omega)]
  have e1 : lit d = fun q => if q < 32 then lit d q else 0#8 := by
    funext q
    split
    · rfl
    · unfold lit; rw [List.getD_eq_getElem?_getD, List.getElem?_eq_none (by omega)]; rfl
  rw [e0, e1]
  refine Iter.count (fun i => (i, fun q => if q < i then lit d q else 0#8)) 32 (fun i hi => ?_) ?_
  · unfold letheref07_NewPair_l0; dsimp only
    rw [if_pos hi]
    refine ⟨by omega, ?_⟩
    have e3 : upd (fun q => if q < i then lit d q else 0#8) i (lit d i) = fun q => if q < i + 1 then lit d q else 0#8 := by
      funext q; rw [upd_at]
      by_cases hq : q = i
      · subst hq; rw [if_pos rfl, if_pos (by omega)]
      · rw [if_neg hq]
        by_cases h6 : q < i
        · rw [if_pos h6, if_pos (by omega)]
        · rw [if_neg h6, if_neg (by omega)]
    rw [e3]
  · unfold letheref07_NewPair_l0; dsimp only; rw [if_neg (by omega)]
theorem pair_true (d : List Byte) (h : d.length ≤ reachBytes) : lethelaw07_pair d true := by
  have hb := reachBytes_lt
  have hl : d.length + ([85#8, 170#8] : List Byte).length ≤ 9223372036854775807 := by simp only [List.length_cons, List.length_nil]; omega
  have hs : seg (d ++ [85#8, 170#8]) 0 d.length = d := by
    unfold seg
    simp
  refine ⟨hl, ⟨Nat.zero_le _, by rw [List.length_append]; omega⟩, ?_⟩
  rw [hs]
  by_cases h32 : d.length = 32
  · obtain ⟨a, b, h1, h2, h3⟩ := pub_both (clampF (lit d))
    refine ⟨clampF (lit d), a, 0, ?_, clampF (lit d), b, 0, ?_, ?_⟩
    · unfold curve_NewPair
      rw [if_neg (by omega)]
      exact ⟨by omega, _, clamp_ok _, a, h1, rfl⟩
    · unfold letheref07_NewPair
      rw [if_neg (by omega)]
      exact ⟨_, draw7 h32, _, clamp7 _, b, h2, rfl⟩
    · rw [if_pos (by rw [h3, eqB_iff.2 (fun _ _ => rfl)]; rfl), if_pos rfl]
      exact ⟨hl, (decide_eq_true rfl).symm⟩
  · refine ⟨fun _ => 0#8, fun _ => 0#8, 71, ?_, fun _ => 0#8, fun _ => 0#8, 71, ?_, ?_⟩
    · unfold curve_NewPair
      rw [if_pos h32]
    · unfold letheref07_NewPair
      rw [if_pos h32]
    · rw [if_pos (by decide), if_pos rfl]
      exact ⟨hl, (decide_eq_true rfl).symm⟩
theorem plays_true (kind : Int) (k u : Nat → BitVec 8) (d : List Byte) (h : d.length ≤ reachBytes) : lethelaw07_plays kind k u d true := by
  unfold lethelaw07_plays
  by_cases h1 : kind = 1
  · rw [if_pos h1]
    exact ⟨_, clamp_ok k, _, clamp7 k, (eqB_iff.2 (fun _ _ => rfl)).symm⟩
  · rw [if_neg h1]
    by_cases h2 : kind = 2
    · rw [if_pos h2]
      obtain ⟨a, a1, a2⟩ := times_rp k u
      obtain ⟨b, b1, b2⟩ := times7 k u
      exact ⟨a, a1, b, b1, (num_eqB a2 b2).symm⟩
    · rw [if_neg h2]
      by_cases h3 : kind = 3
      · rw [if_pos h3]
        obtain ⟨a, b, a1, b1, e⟩ := pub_both k
        exact ⟨a, a1, b, b1, e.symm⟩
      · rw [if_neg h3]
        by_cases h4 : kind = 4
        · rw [if_pos h4]
          obtain ⟨a, b, e, a1, b1, hab⟩ := shared_both k u
          exact ⟨a, e, a1, b, e, b1, by rw [if_pos hab]; exact (decide_eq_true rfl).symm⟩
        · rw [if_neg h4]
          by_cases h5 : kind = 5
          · rw [if_pos h5]
            exact ⟨true, pair_true d h, rfl⟩
          · rw [if_neg h5]
theorem curveExact_true (script : List (Int × (Nat → BitVec 8) × (Nat → BitVec 8) × (List Byte))) (hQ : ∀ (j : Nat) x, script[j]? = some x → x.2.2.2.length ≤ reachBytes) : lethelaw07_CurveExact script true := by
  obtain ⟨r, hI, hr⟩ := iter_go7 (step := lethelaw07_CurveExact_l0 script) (fun s : Bool × Nat => s.1 = true) (fun r => r = true) (fun s => script.length - s.2) (by
    rintro ⟨ok, i⟩ hok
    dsimp only at hok ⊢
    subst hok
    unfold lethelaw07_CurveExact_l0
    dsimp only
    by_cases h1 : i < script.length
    · by_cases h2 : i < 6
      · refine .inr ⟨(true, i + 1), ?_, rfl, by dsimp only; omega⟩
        rw [if_pos rfl, if_pos h1, if_pos h2]
        refine ⟨h1, true, plays_true _ _ _ _ ?_, rfl⟩
        rw [List.getD_eq_getElem?_getD, List.getElem?_eq_getElem h1]
        exact hQ i _ (List.getElem?_eq_getElem h1)
      · exact .inl ⟨true, by rw [if_pos rfl, if_pos h1, if_neg h2], rfl⟩
    · exact .inl ⟨true, by rw [if_pos rfl, if_neg h1], rfl⟩) (script.length + 1) (true, 0) (by dsimp only; omega) rfl
  subst hr
  exact ⟨true, fixed_ok, true, hI, rfl⟩
end Go.Proofs.YtjblfkmmbpcpaaaDoor
