/-
  PLAIN (own work): content that is taken is what is written of its records; of one more or less it is refused.
-/
import Derived.Test.YtbkgblhmlenocaaRPackOneForm
import Derived.Test.YtbkgblhmlenocaaPm
namespace Go.Proofs.Ytbkgblhmlenocaa
set_option linter.unusedSimpArgs false
set_option linter.unusedVariables false
set_option linter.unusedSectionVars false
open Go Go.LW

theorem decF_ok {n : Int} {c : List Byte} (h : (decF n c).2 = 0) : 0 ≤ n ∧ c.length = 1008 ∧ Srt (decF n c).1 ∧ ((((decF n c).1.length : Nat) : Int) = n) ∧ ∃ z : List Byte, c = encs (decF n c).1 ++ z ∧ z.all (fun z => z == 0#8) = true := by
  unfold decF at h ⊢
  by_cases h1 : n < 0
  · rw [if_pos h1] at h; cases h
  rw [if_neg h1] at h ⊢
  by_cases h2 : c.length < 1008
  · rw [if_pos h2] at h; cases h
  rw [if_neg h2] at h ⊢
  by_cases h3 : 1008 < c.length
  · rw [if_pos h3] at h; cases h
  rw [if_neg h3] at h ⊢
  cases hd : decGo n 1009 c [] 0 with
  | inl r0 =>
    rw [hd] at h
    exact absurd h (decGo_inl _ _ _ _ _ hd).2
  | inr p =>
    rw [hd] at h
    dsimp only at h ⊢
    by_cases hz : p.1.all (fun z => z == 0#8) = true
    · rw [if_pos hz]
      obtain ⟨g, q1, q2, q3, q4⟩ := decGo_inv 1009 c [] 0 p (by omega) srt_nil (by omega) hd
      rw [List.nil_append] at q2
      dsimp only
      rw [q2] at q3 ⊢
      exact ⟨by omega, by omega, q3, by rw [Nat.zero_add] at q4; exact q4, p.1, q1, hz⟩
    · rw [if_neg hz] at h; cases h
theorem decF_more {g : List Rec} {z : List Byte} (hs : Srt g) (hl : g.length ≤ 900) (hc : (encs g ++ z).length = 1008) (hz : z.all (fun z => z == 0#8) = true) : decF (((g.length : Nat) : Int) + 1) (encs g ++ z) = ([], 110) := by
  have hf : (firstF z).2 = 0 := first_zero (fun q => by rw [all_zero hz]; exact lit_zeros _ _)
  unfold decF
  rw [if_neg (by omega), if_neg (by omega), if_neg (by omega), show 1009 = (1009 - g.length) + g.length by omega, decGo_app g z [] 0 _ hs (by omega), show 1009 - g.length = (1008 - g.length) + 1 by omega, decGo, if_pos (by omega), if_pos hf]
theorem decF_less {g : List Rec} {x : Rec} {z : List Byte} (hs : Srt (g ++ [x])) (hl : g.length ≤ 900) (hc : (encs (g ++ [x]) ++ z).length = 1008) : decF ((g.length : Nat) : Int) (encs (g ++ [x]) ++ z) = ([], 104) := by
  have hx : okR x := hs.1 x (List.mem_append_right _ List.mem_cons_self)
  have hs0 : Srt g := ⟨fun r hr => hs.1 r (List.mem_append_left _ hr), (List.pairwise_append.1 hs.2).1⟩
  have e : encs (g ++ [x]) ++ z = encs g ++ (enc1 x ++ z) := by rw [encs_app, List.append_assoc]; unfold encs; simp
  rw [e] at hc ⊢
  have hn : ¬ ((enc1 x ++ z).all (fun z => z == 0#8) = true) := by
    intro h
    have h2 := List.all_eq_true.1 h (BitVec.ofNat 8 x.2.1.length) (by unfold enc1; simp)
    have h3 : BitVec.ofNat 8 x.2.1.length = 0#8 := by simpa using h2
    have h4 := congrArg BitVec.toNat h3
    rw [BitVec.toNat_ofNat] at h4
    obtain ⟨k1, k2, k3, k4, k5⟩ := hx
    have : (0#8 : Byte).toNat = 0 := rfl
    omega
  unfold decF
  rw [if_neg (by omega), if_neg (by omega), if_neg (by omega), show 1009 = (1009 - g.length) + g.length by omega, decGo_app g _ [] 0 _ hs0 (by omega), show 1009 - g.length = (1008 - g.length) + 1 by omega, decGo, if_neg (by omega)]
  dsimp only
  rw [if_neg hn]
theorem packOneForm_true (n : Int) (c : List Byte) (l : List Rec) : lethelaw11_PackOneForm n c l true := by
  refine ⟨_, _, encode_ok srt_nil (Nat.zero_le _) (Nat.zero_le _), ineg (fun h => h rfl) ⟨(decF n c).1, (decF n c).2, decode_ok n c, ?_⟩⟩
  by_cases he : (decF n c).2 ≠ 0
  · exact ipos he (decide_eq_true (by rw [decF_err he]; rfl)).symm
  refine ineg he ?_
  have he0 : (decF n c).2 = 0 := Decidable.not_not.1 he
  obtain ⟨h0, h1, h2, h3, z, h4, h5⟩ := decF_ok he0
  generalize (decF n c).1 = got at h2 h3 h4
  have hbig : 5 * got.length ≤ szs got := by
    have : ∀ g : List Rec, (∀ r ∈ g, okR r) → 5 * g.length ≤ szs g := by
      intro g
      induction g with
      | nil => intro _; exact Nat.le_refl _
      | cons x g ih =>
        intro hg
        have := ih (fun r hr => hg r (List.mem_cons_of_mem _ hr))
        have := (size_bd (hg x List.mem_cons_self)).1
        rw [szs_cons, List.length_cons]; omega
    exact this got h2.1
  have hlen := congrArg List.length h4
  rw [List.length_append, encs_length, h1] at hlen
  have hz := all_zero h5
  have hzl : z.length = 1008 - (encs got).length := by rw [encs_length]; omega
  have hec : encs got ++ List.replicate (1008 - (encs got).length) 0#8 = c := by rw [← hzl, ← hz, ← h4]
  have henc := encode_ok h2 (by omega) (by omega)
  rw [hec] at henc
  refine ⟨c, 0, henc, ineg (fun h => h rfl) ⟨true, (decide_eq_true rfl).symm, ipos rfl (ineg (fun h => h h3) ⟨by omega, (decF (n + 1) c).1, (decF (n + 1) c).2, decode_ok _ _, by omega, (decF (n - 1) c).1, (decF (n - 1) c).2, decode_ok _ _, ?_⟩)⟩⟩
  have hm : decF (n + 1) c = ([], 110) := by
    have := decF_more h2 (by omega) (by rw [← h4]; exact h1) h5
    rw [← h4, h3] at this; exact this
  rw [hm]
  refine ipos (by decide) ?_
  by_cases hn0 : n = 0
  · have hl : decF (n - 1) c = ([], 4) := by unfold decF; rw [if_pos (by omega)]
    rw [hl]
    exact ipos hn0 (ineg (by omega) (decide_eq_true rfl).symm)
  · have hne : got ≠ [] := fun h => by rw [h] at h3; exact hn0 h3.symm
    obtain ⟨g, x, rfl⟩ : ∃ g x, got = g ++ [x] := ⟨got.dropLast, got.getLast hne, (List.dropLast_concat_getLast hne).symm⟩
    have hgl : (g ++ [x]).length = g.length + 1 := List.length_append
    rw [hgl] at h3 hbig
    have hl : decF (n - 1) c = ([], 104) := by
      have := decF_less (z := z) h2 (by omega) (by rw [← h4]; exact h1)
      rw [← h4] at this
      rw [show n - 1 = ((g.length : Nat) : Int) by omega]; exact this
    rw [hl]
    exact ineg hn0 (ipos rfl (ipos (by omega) rfl))
end Go.Proofs.Ytbkgblhmlenocaa
