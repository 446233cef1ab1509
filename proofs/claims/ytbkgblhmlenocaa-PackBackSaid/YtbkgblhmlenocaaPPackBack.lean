/-
  PLAIN (own work): records put one by one are the sorted list of the latest of each place; its pages, written and read, are the list.
-/
import Derived.Test.YtbkgblhmlenocaaRPackBack
import Derived.Test.YtbkgblhmlenocaaPm
namespace Go.Proofs.Ytbkgblhmlenocaa
set_option linter.unusedSimpArgs false
set_option linter.unusedVariables false
set_option linter.unusedSectionVars false
open Go Go.LW

theorem put_all (l : List Rec) (b : Bool) : Iter (lethelaw11_PackBack_l0 l b) ([], 0) (some (wantL l)) := by
  refine Iter.count (fun i => (want l i, i)) (min l.length 60) (fun i hi => ?_) ?_
  · obtain ⟨h1, h2⟩ := want_srt l i
    exact ipos (by omega) (ipos (by omega) ⟨by omega, (rgt (l.getD i zR)).1, (rgt (l.getD i zR)).2.1, (rgt (l.getD i zR)).2.2, (right_ok _).1, _, _, put_ok h1 (by omega) (right_ok _).2, ineg (fun h => h rfl) rfl⟩)
  · by_cases h2 : min l.length 60 < l.length
    · exact ipos h2 (ineg (by omega) rfl)
    · exact ineg h2 rfl
theorem sameB_ok {l : List Rec} (hl : l.length ≤ 1000) : lethelaw11_Same l l true := by
  refine ineg (fun h => h rfl) ⟨some (), Iter.count (fun i => i) l.length (fun i hi => ?_) (ineg (Nat.lt_irrefl _) rfl), fun _ => rfl⟩
  exact ipos hi ⟨hi, hi, ineg (fun h => h rfl) ⟨hi, hi, true, (decide_eq_true rfl).symm, ipos rfl ⟨hi, hi, true, (decide_eq_true rfl).symm, ipos rfl ⟨by omega, rfl⟩⟩⟩⟩
theorem bdI {a : Int} (h0 : 0 ≤ a) (h1 : a ≤ 3000) : -9223372036854775808 ≤ a ∧ a ≤ 9223372036854775807 := by omega
theorem pages_ok {l : List Rec} (hs : Srt l) (hl : l.length ≤ 1000) (b : Bool) : Iter (lethelaw11_PackBack_l1 l l (packs l) b) (0, 0) (some ((l.length : Nat) : Int)) := by
  obtain ⟨G, hG, hfl, hgood⟩ := packs_ok hs.1
  have hil : (packs l).length ≤ 1000 := by
    have := good_lens hgood
    rw [hG, lens, List.length_map]; rw [hfl] at this; omega
  obtain ⟨x, hI, rfl⟩ := iter_go (step := lethelaw11_PackBack_l1 l l (packs l) b) (fun s => ∃ (at0 : Nat) (G1 : List (List Rec)), s.1 = ((at0 : Nat) : Int) ∧ l.drop at0 = G1.flatten ∧ (packs l).drop s.2 = lens G1 ∧ Good G1 ∧ at0 ≤ l.length) (fun x => x = some ((l.length : Nat) : Int)) (fun s => (packs l).length - s.2) (by
    rintro ⟨atI, i⟩ ⟨at0, G1, h0, h1, h2, h3, h4⟩
    dsimp only at h0 h2
    subst h0
    cases G1 with
    | nil =>
      have hi : ¬ i < (packs l).length := by
        intro hi
        have := congrArg List.length h2
        rw [List.length_drop] at this
        simp [lens] at this; omega
      have ha : at0 = l.length := by
        have := congrArg List.length h1
        rw [List.length_drop] at this
        simp at this; omega
      exact .inl ⟨some ((at0 : Nat) : Int), ineg hi rfl, by rw [ha]⟩
    | cons g G2 =>
      obtain ⟨hi, hgi, hdi⟩ := getI_drop (x := ((g.length : Nat) : Int)) (t := lens G2) h2
      obtain ⟨q1, q2, q3⟩ := h3.hd
      have hgl : 0 < g.length := List.length_pos_iff.2 q1
      rw [List.flatten_cons] at h1
      have hd2 : l.drop (at0 + g.length) = G2.flatten := by rw [← List.drop_drop, h1, List.drop_left']; rfl
      have hle : at0 + g.length ≤ l.length := by
        have := congrArg List.length h1
        rw [List.length_drop, List.length_append] at this; omega
      have hsum : ((at0 : Nat) : Int) + ((g.length : Nat) : Int) = ((at0 + g.length : Nat) : Int) := by omega
      have hsgl : sgl l at0 (at0 + g.length) = g := by
        unfold sgl
        rw [h1, show at0 + g.length - at0 = g.length by omega, List.take_left']; rfl
      have hgs : Srt g := by
        have hsub : g.Sublist l := by
          have : g.Sublist (l.drop at0) := by rw [h1]; exact List.sublist_append_left _ _
          exact this.trans (List.drop_sublist _ _)
        exact ⟨fun r hr => hs.1 r (hsub.subset hr), hs.2.sublist hsub⟩
      have hbl : (encs g ++ List.replicate (1008 - (encs g).length) 0#8).length = 1008 := by
        have := encs_length g
        rw [List.length_append, List.length_replicate]; omega
      have hto : (((at0 : Nat) : Int)).toNat = at0 := rfl
      have hto2 : (((at0 + g.length : Nat) : Int)).toNat = at0 + g.length := rfl
      have hdec := decode_ok ((g.length : Nat) : Int) (encs g ++ List.replicate (1008 - (encs g).length) 0#8)
      rw [decF_enc hgs q2 (by omega)] at hdec
      refine .inr ⟨(((at0 + g.length : Nat) : Int), i + 1), ?_, ⟨at0 + g.length, G2, rfl, hd2, hdi, q3, hle⟩, by show (packs l).length - (i + 1) < (packs l).length - i; omega⟩
      unfold lethelaw11_PackBack_l1
      dsimp only
      rw [if_pos hi, hgi, hsum, hto, hto2, hsgl]
      refine ⟨hi, ineg (by omega) ⟨bdI (by omega) (by omega), ineg (by omega) ⟨bdI (by omega) (by omega), by omega, by omega, by omega, _, _, encode_ok hgs (by omega) q2, _, _, hdec, ineg (fun h => h rfl) (ineg (fun h => h rfl) (ineg (fun h => h hbl) ⟨bdI (by omega) (by omega), by omega, by omega, by omega, true, sameB_ok (by omega), ipos rfl ⟨bdI (by omega) (by omega), by omega, rfl⟩⟩))⟩⟩⟩) ((packs l).length + 1) (0, 0) (by show (packs l).length - 0 < _; omega) ⟨0, G, rfl, by rw [List.drop_zero]; exact hfl.symm, by rw [List.drop_zero]; exact hG, hgood, Nat.zero_le _⟩
  exact hI
theorem packBack_true (l : List Rec) : lethelaw11_PackBack l true := by
  obtain ⟨hw, hwl⟩ := wantL_srt l
  refine ⟨_, put_all l true, fun a he => ?_⟩
  obtain rfl : wantL l = a := Option.some.inj he
  refine ⟨_, lsorted_ok l, _, _, pack_ok hw (by omega), ineg (fun h => h rfl) ⟨true, sameB_ok (by omega), ipos rfl (ineg ?_ ⟨_, pages_ok hw (by omega) true, fun a he => ?_⟩)⟩⟩
  · obtain ⟨G, hG, hfl, hgood⟩ := packs_ok hw.1
    have h1 := good_lens hgood
    rw [hfl] at h1
    have h2 : (0 < (packs (wantL l)).length) ↔ (0 < (wantL l).length) := by
      rw [hG, lens, List.length_map]
      constructor
      · intro h; omega
      · intro h
        rcases Nat.eq_zero_or_pos G.length with h3 | h3
        · rw [List.length_eq_zero_iff.1 h3] at hfl
          rw [← hfl] at h; simp at h
        · exact h3
    have e : decide (0 < (packs (wantL l)).length) = decide (0 < (wantL l).length) := decide_eq_decide.2 h2
    rw [e]; simp
  · obtain rfl : (((wantL l).length : Nat) : Int) = a := Option.some.inj he
    exact (decide_eq_true rfl).symm
end Go.Proofs.Ytbkgblhmlenocaa
