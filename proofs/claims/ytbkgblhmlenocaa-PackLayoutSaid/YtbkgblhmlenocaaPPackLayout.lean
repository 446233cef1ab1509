/-
  PLAIN (own work): each page takes as many as there is room for; a record put and deleted again leaves the layout.
-/
import Derived.Test.YtbkgblhmlenocaaRPackLayout
import Derived.Test.YtbkgblhmlenocaaPm
namespace Go.Proofs.Ytbkgblhmlenocaa
set_option linter.unusedSimpArgs false
set_option linter.unusedVariables false
set_option linter.unusedSectionVars false
open Go Go.LW

theorem page_ok {l : List Rec} (hs : ∀ r ∈ l, okR r) (hl : l.length ≤ 1000) {c : List Int} {i : Nat} (hi : i < c.length) {g T : List Rec} {at0 : Nat} (hg : c.getD i 0 = ((g.length : Nat) : Int)) (hd : l.drop at0 = g ++ T) (hsz : szs g ≤ 1008) (o : (Nat × Nat) ⊕ (Option Nat)) (b : Bool) :
    Iter (lethelaw11_PackLayout_l1 l c i o b) (at0, 0, 0) (some (at0 + g.length, szs g)) := by
  have hdk : ∀ k, k ≤ g.length → l.drop (at0 + k) = g.drop k ++ T := fun k hk => by
    rw [← List.drop_drop, hd, List.drop_append_of_le_length hk]
  have := Iter.count (step := lethelaw11_PackLayout_l1 l c i o b) (x := some (at0 + g.length, szs g)) (fun k => (at0 + k, szs (g.take k), k)) g.length (fun k hk => ?_) ⟨hi, ineg (by rw [hg]; omega) (by rw [List.take_length])⟩
  · simpa [szs] using this
  · have h1 := hdk k (Nat.le_of_lt hk)
    rw [drop_cons' hk] at h1
    obtain ⟨h2, h3, _⟩ := getD_drop h1
    have hx := hs _ (getD_mem h2)
    have hle : szs (g.take k) + sizeR (l.getD (at0 + k) zR) = szs (g.take (k + 1)) := by
      rw [take_succ' hk, szs_app, h3]; rfl
    have hle2 : szs (g.take (k + 1)) ≤ szs g := by
      have : szs g = szs (g.take (k + 1)) + szs (g.drop (k + 1)) := by rw [← szs_app, List.take_append_drop]
      omega
    refine ⟨hi, ipos (by rw [hg]; omega) (ineg (by omega) ⟨h2, _, size_ok hx, ?_, by omega, by omega, ?_⟩)⟩
    · exact Nat.lt_of_le_of_lt (Nat.le_of_eq hle) (by omega)
    · show Sum.inl _ = Sum.inl _
      rw [← hle]; rfl
theorem layout_ok {l : List Rec} (hs : ∀ r ∈ l, okR r) (hl : l.length ≤ 1000) (b : Bool) : Iter (lethelaw11_PackLayout_l0 l (packs l) b) (0, 0) (some l.length) := by
  obtain ⟨G, hG, hfl, hgood⟩ := packs_ok hs
  obtain ⟨x, hI, rfl⟩ := iter_go (step := lethelaw11_PackLayout_l0 l (packs l) b) (fun s => ∃ G1, l.drop s.1 = G1.flatten ∧ (packs l).drop s.2 = lens G1 ∧ Good G1 ∧ s.1 ≤ l.length) (fun x => x = some l.length) (fun s => (packs l).length - s.2) (by
    rintro ⟨at0, i⟩ ⟨G1, h1, h2, h3, h4⟩
    dsimp only at h1 h2 h4
    cases G1 with
    | nil =>
      have hi : ¬ i < (packs l).length := by
        intro hi
        have := congrArg List.length h2
        rw [List.length_drop] at this
        simp [lens] at this; omega
      have ha : at0 = l.length := by
        have := congrArg List.length h1
        rw [List.length_drop] at this
        simp at this; omega
      exact .inl ⟨some at0, ineg hi rfl, by rw [ha]⟩
    | cons g G2 =>
      obtain ⟨hi, hgi, hdi⟩ := getI_drop (x := ((g.length : Nat) : Int)) (t := lens G2) h2
      obtain ⟨q1, q2, q3⟩ := h3.hd
      have hgl : 0 < g.length := List.length_pos_iff.2 q1
      rw [List.flatten_cons] at h1
      have hd2 : l.drop (at0 + g.length) = G2.flatten := by rw [← List.drop_drop, h1, List.drop_left']; rfl
      have hle : at0 + g.length ≤ l.length := by
        have := congrArg List.length h1
        rw [List.length_drop, List.length_append] at this; omega
      have hil : (packs l).length ≤ 1000 := by
        have := good_lens hgood
        rw [hG, lens, List.length_map]; rw [hfl] at this; omega
      refine .inr ⟨(at0 + g.length, i + 1), ipos hi ⟨_, page_ok hs hl hi hgi h1 q2 _ _, fun a z he => ?_⟩, ⟨G2, hd2, hdi, q3, hle⟩, by show (packs l).length - (i + 1) < (packs l).length - i; omega⟩
      obtain ⟨rfl, rfl⟩ : at0 + g.length = a ∧ szs g = z := by cases he; exact ⟨rfl, rfl⟩
      refine ineg (by omega) ⟨hi, ineg (by rw [hgi]; omega) ?_⟩
      by_cases hat : at0 + g.length < l.length
      · cases G2 with
        | nil =>
          have := congrArg List.length hd2
          rw [List.length_drop] at this
          simp at this; omega
        | cons g' G3 =>
          have hg' := h3.2.2.2.hd.1
          have hx : l.getD (at0 + g.length) zR = g'.headD zR := by
            cases g' with
            | nil => exact absurd rfl hg'
            | cons y ys => exact (getD_drop (x := y) (t := ys ++ G3.flatten) (by rw [hd2]; rfl)).2.1
          have hb := size_bd (hs _ (getD_mem hat))
          have hgt : 1008 < szs g + sizeR (l.getD (at0 + g.length) zR) := by rw [hx]; exact h3.2.2.1
          refine ipos hat ⟨hat, _, size_ok (hs _ (getD_mem hat)), ?_, ineg (Nat.not_le.2 hgt) ⟨by omega, rfl⟩⟩
          exact Nat.lt_of_le_of_lt (Nat.add_le_add q2 hb.2) (by decide)
      · exact ineg hat ⟨by omega, rfl⟩) ((packs l).length + 1) (0, 0) (by show (packs l).length - 0 < _; omega) ⟨G, by rw [List.drop_zero]; exact hfl.symm, by rw [List.drop_zero]; exact hG, hgood, Nat.zero_le _⟩
  exact hI
theorem same_ok {l : List Rec} (hl : l.length ≤ 1000) : lethelaw11_Same l l true := by
  refine ineg (fun h => h rfl) ⟨some (), Iter.count (fun i => i) l.length (fun i hi => ?_) (ineg (Nat.lt_irrefl _) rfl), fun _ => rfl⟩
  exact ipos hi ⟨hi, hi, ineg (fun h => h rfl) ⟨hi, hi, true, (decide_eq_true rfl).symm, ipos rfl ⟨hi, hi, true, (decide_eq_true rfl).symm, ipos rfl ⟨by omega, rfl⟩⟩⟩⟩
theorem sameInts_ok {l : List Int} (hl : l.length ≤ 1000) : lethelaw11_sameInts l l true := by
  refine ineg (fun h => h rfl) ⟨some (), Iter.count (fun i => i) l.length (fun i hi => ?_) (ineg (Nat.lt_irrefl _) rfl), fun _ => rfl⟩
  exact ipos hi ⟨hi, hi, ineg (fun h => h rfl) ⟨by omega, rfl⟩⟩
theorem packs_len {l : List Rec} (h : ∀ r ∈ l, okR r) : (packs l).length ≤ l.length := by
  obtain ⟨G, hG, hfl, hgood⟩ := packs_ok h
  have := good_lens hgood
  rw [hG, lens, List.length_map]; rw [hfl] at this; exact this
theorem packLayout_true (l : List Rec) (a1 : Int) (a2 a3 : List Byte) : lethelaw11_PackLayout l a1 a2 a3 true := by
  obtain ⟨hw, hwl⟩ := wantL_srt l
  obtain ⟨hr, hro⟩ := right_ok (a1, a2, a3)
  generalize rgt (a1, a2, a3) = r at hr hro
  have hsrt := srt_ins hro hw
  have hlen := (ins_length r (wantL l)).1
  have hfi := fnd_ins r (wantL l)
  have hdl := del_length r _ hfi
  have hil := ins_len_fnd r (wantL l)
  have hpl := packs_len hw.1
  refine ⟨_, lsorted_ok l, _, _, pack_ok hw (by omega), ineg (fun h => h rfl) ⟨_, layout_ok hw.1 (by omega) true, fun a he => ?_⟩⟩
  obtain rfl : (wantL l).length = a := Option.some.inj he
  refine ⟨r.1, r.2.1, r.2.2, hr, _, _, find_ok hw (by omega) r, _, _, put_ok hw (by omega) hro, _, _, delete_ok hsrt (by omega) hfi, ineg (fun h => h rfl) (ineg (fun h => h rfl) (ineg (fun h => h rfl) ?_))⟩
  by_cases hf : fnd r (wantL l) = true
  · rw [if_pos hf] at hil
    exact ipos hf (ipos hil ⟨by omega, (decide_eq_true (by omega)).symm⟩)
  · have hdn := del_no r (wantL l) (by simpa using hf)
    rw [del_ins, hdn]
    exact ineg hf ⟨_, _, pack_ok hw (by omega), ipos rfl ⟨true, same_ok (by omega), ipos rfl ⟨true, sameInts_ok (by omega), rfl⟩⟩⟩
end Go.Proofs.Ytbkgblhmlenocaa
