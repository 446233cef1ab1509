/-
  PLAIN LAW OF ShaKnown (printed by g_pshaknown.py, own work): three published digests, reckoned.
-/
import Derived.Test.YtjdgbahjpdopbaaDoorPShaE
import Derived.Test.YtjdgbahjpdopbaaDoorPMill2
import Derived.Test.YtjdgbahjpdopbaaDoorRShaKnown
namespace Go.Proofs.YtjdgbahjpdopbaaDoor
set_option linter.unusedSimpArgs false
set_option linter.unusedVariables false
set_option linter.unusedSectionVars false
open Go Go.LW
set_option maxRecDepth 100000

theorem known0_w : (hstF (lit ([128#8, 0#8, 0#8, 0#8, 0#8, 0#8, 0#8, 0#8, 0#8, 0#8, 0#8, 0#8, 0#8, 0#8, 0#8, 0#8, 0#8, 0#8, 0#8, 0#8, 0#8, 0#8, 0#8, 0#8, 0#8, 0#8, 0#8, 0#8, 0#8, 0#8, 0#8, 0#8, 0#8, 0#8, 0#8, 0#8, 0#8, 0#8, 0#8, 0#8, 0#8, 0#8, 0#8, 0#8, 0#8, 0#8, 0#8, 0#8, 0#8, 0#8, 0#8, 0#8, 0#8, 0#8, 0#8, 0#8, 0#8, 0#8, 0#8, 0#8, 0#8, 0#8, 0#8, 0#8] : List Byte)) 1).list = [3820012610, 2566659092, 2600203464, 2574235940, 665731556, 1687917388, 2761267483, 2018687061] := by decide +kernel
theorem known0_p : padB (([] : List (List Byte)).flatten) = ([128#8, 0#8, 0#8, 0#8, 0#8, 0#8, 0#8, 0#8, 0#8, 0#8, 0#8, 0#8, 0#8, 0#8, 0#8, 0#8, 0#8, 0#8, 0#8, 0#8, 0#8, 0#8, 0#8, 0#8, 0#8, 0#8, 0#8, 0#8, 0#8, 0#8, 0#8, 0#8, 0#8, 0#8, 0#8, 0#8, 0#8, 0#8, 0#8, 0#8, 0#8, 0#8, 0#8, 0#8, 0#8, 0#8, 0#8, 0#8, 0#8, 0#8, 0#8, 0#8, 0#8, 0#8, 0#8, 0#8, 0#8, 0#8, 0#8, 0#8, 0#8, 0#8, 0#8, 0#8] : List Byte) := by decide +kernel
theorem known0 : dl 32 (shaL (([] : List (List Byte)).flatten)) = ([227#8, 176#8, 196#8, 66#8, 152#8, 252#8, 28#8, 20#8, 154#8, 251#8, 244#8, 200#8, 153#8, 111#8, 185#8, 36#8, 39#8, 174#8, 65#8, 228#8, 100#8, 155#8, 147#8, 76#8, 164#8, 149#8, 153#8, 27#8, 120#8, 82#8, 184#8, 85#8] : List Byte) := shaL_eval (l := [3820012610, 2566659092, 2600203464, 2574235940, 665731556, 1687917388, 2761267483, 2018687061]) known0_p (k := 1) rfl known0_w (by decide +kernel) rfl
theorem known3_w : (hstF (lit ([97#8, 98#8, 99#8, 128#8, 0#8, 0#8, 0#8, 0#8, 0#8, 0#8, 0#8, 0#8, 0#8, 0#8, 0#8, 0#8, 0#8, 0#8, 0#8, 0#8, 0#8, 0#8, 0#8, 0#8, 0#8, 0#8, 0#8, 0#8, 0#8, 0#8, 0#8, 0#8, 0#8, 0#8, 0#8, 0#8, 0#8, 0#8, 0#8, 0#8, 0#8, 0#8, 0#8, 0#8, 0#8, 0#8, 0#8, 0#8, 0#8, 0#8, 0#8, 0#8, 0#8, 0#8, 0#8, 0#8, 0#8, 0#8, 0#8, 0#8, 0#8, 0#8, 0#8, 24#8] : List Byte)) 1).list = [3128432319, 2399260650, 1094795486, 1571693091, 2953011619, 2518121116, 3021012833, 4060091821] := by decide +kernel
theorem known3_p : padB (([[97#8, 98#8, 99#8]] : List (List Byte)).flatten) = ([97#8, 98#8, 99#8, 128#8, 0#8, 0#8, 0#8, 0#8, 0#8, 0#8, 0#8, 0#8, 0#8, 0#8, 0#8, 0#8, 0#8, 0#8, 0#8, 0#8, 0#8, 0#8, 0#8, 0#8, 0#8, 0#8, 0#8, 0#8, 0#8, 0#8, 0#8, 0#8, 0#8, 0#8, 0#8, 0#8, 0#8, 0#8, 0#8, 0#8, 0#8, 0#8, 0#8, 0#8, 0#8, 0#8, 0#8, 0#8, 0#8, 0#8, 0#8, 0#8, 0#8, 0#8, 0#8, 0#8, 0#8, 0#8, 0#8, 0#8, 0#8, 0#8, 0#8, 24#8] : List Byte) := by decide +kernel
theorem known3 : dl 32 (shaL (([[97#8, 98#8, 99#8]] : List (List Byte)).flatten)) = ([186#8, 120#8, 22#8, 191#8, 143#8, 1#8, 207#8, 234#8, 65#8, 65#8, 64#8, 222#8, 93#8, 174#8, 34#8, 35#8, 176#8, 3#8, 97#8, 163#8, 150#8, 23#8, 122#8, 156#8, 180#8, 16#8, 255#8, 97#8, 242#8, 0#8, 21#8, 173#8] : List Byte) := shaL_eval (l := [3128432319, 2399260650, 1094795486, 1571693091, 2953011619, 2518121116, 3021012833, 4060091821]) known3_p (k := 1) rfl known3_w (by decide +kernel) rfl
theorem lettersA {X : List Byte} (hl : X.length = 1000000) (h : ∀ q, q < 1000000 → lit X q = 97#8) : eqB 32 (shaL X) (lit million) = true := by
  have hL : (padB X).length = 1000064 := by rw [padB_length, hl]
  have hb : ∀ q, lit (padB X) q = if q < 1000000 then lit X q else lit fin (q - 1000000) := fun q => by
    have e : padB X = X ++ (128#8 :: List.replicate 55 0#8 ++ (List.range 8).map (lenb 1000000)) := by
      unfold padB pad0
      rw [hl, List.append_assoc]
    have e2 : 128#8 :: List.replicate 55 0#8 ++ (List.range 8).map (lenb 1000000) = fin := by decide +kernel
    rw [e, e2, lit_app, hl]
  have hm := million_hst (m := lit (padB X)) (fun q hq => by rw [hb, if_pos hq, h q hq]) (fun q hq => by rw [hb, if_neg (by omega), Nat.add_sub_cancel_left])
  refine eqB_iff.2 fun q hq => ?_
  unfold shaL
  rw [hL, show 1000064 / 64 = 15626 from rfl, dgb_at _ 8 q (by omega)]
  exact dig_of hm (D := million) (by decide +kernel) q hq
theorem moves_ok : lethelaw02_moves true := by
  obtain ⟨st, blk, w, _⟩ := write_ok (Y := [1#8, 2#8, 3#8]) Hold.nil (by decide)
  exact ⟨_, _, _, rfl, _, _, _, w, _, rfl, by decide⟩
theorem rep_succ (n : Nat) (v : Byte) (B : List Byte) (w : Byte) : (List.replicate n v ++ w :: B).set n v = List.replicate (n + 1) v ++ B := by
  rw [List.set_append_right _ _ (by rw [List.length_replicate]; exact Nat.le_refl _), List.length_replicate, Nat.sub_self, List.set_cons_zero, List.replicate_succ', List.append_assoc]; rfl
theorem million_sum {st blk} {X : List Byte} (hl : X.length = 1000000) (h : ∀ q, q < 1000000 → lit X q = 97#8) (hH : Hold X st blk) : ∃ r, sha_Hash_Sum st blk 1000000 r ∧ true = eqB 32 r (lit million) := by
  have hs := sumdig_ok hH (by rw [hl]; decide)
  rw [hl] at hs
  exact ⟨_, hs, (lettersA hl h).symm⟩
theorem letters_len (n : Nat) : (List.replicate n 97#8 : List Byte).length = n := List.length_replicate
theorem letters_at {n q : Nat} (h : q < n) : lit (List.replicate n 97#8 : List Byte) q = 97#8 := by
  unfold lit; rw [List.getD_eq_getElem?_getD, List.getElem?_replicate, if_pos h]; rfl
theorem writes_ok : ∃ m97 m98, Iter lethelaw02_ShaKnown_l1 (List.replicate 1000 97#8, 0, H256, (fun _ => 0#8), ((0 : Nat) : Int)) (m97, m98, (1000000 : Int)) ∧ ∃ X : List Byte, X.length = 1000000 ∧ (∀ q, q < 1000000 → lit X q = 97#8) ∧ Hold X m97 m98 := by
  obtain ⟨⟨s2, b2, n2⟩, hI, hn, X, hX, hX2, h2⟩ := iter_go (step := lethelaw02_ShaKnown_l1)
    (fun s : (List Byte) × Nat × (Nat → BitVec 32) × (Nat → BitVec 8) × Int => s.1 = List.replicate 1000 97#8 ∧ s.2.1 ≤ 1000 ∧ Hold (List.replicate (1000 * s.2.1) 97#8) s.2.2.1 s.2.2.2.1 ∧ s.2.2.2.2 = ((1000 * s.2.1 : Nat) : Int))
    (fun x : (Nat → BitVec 32) × (Nat → BitVec 8) × Int => x.2.2 = (1000000 : Int) ∧ ∃ X : List Byte, X.length = 1000000 ∧ (∀ q, q < 1000000 → lit X q = 97#8) ∧ Hold X x.1 x.2.1) (fun s => 1000 - s.2.1) (by
    rintro ⟨a, t, st, blk, n⟩ ⟨ha, ht, hH, hn⟩
    dsimp only at ha ht hH hn ⊢
    subst ha
    subst hn
    unfold lethelaw02_ShaKnown_l1
    dsimp only
    by_cases hw : t < 1000
    · obtain ⟨s3, b3, w3, h3⟩ := write_ok (Y := List.replicate 1000 97#8) hH (by rw [letters_len, letters_len]; omega)
      rw [List.replicate_append_replicate, letters_len, letters_len] at w3
      rw [List.replicate_append_replicate] at h3
      have e : 1000 * t + 1000 = 1000 * (t + 1) := by omega
      rw [e] at w3 h3
      exact .inr ⟨_, by rw [if_pos hw]; exact ⟨_, _, _, w3, rfl⟩, ⟨rfl, by dsimp only; omega, h3, rfl⟩, by dsimp only; omega⟩
    · refine .inl ⟨_, by rw [if_neg hw], ?_⟩
      generalize hN : 1000 * t = N at hH ⊢
      have hN2 : N = 1000000 := by omega
      refine ⟨by dsimp only; omega, _, ?_, fun q hq => ?_, hH⟩
      · rw [letters_len]; exact hN2
      · exact letters_at (by omega)) 1001 (List.replicate 1000 97#8, 0, H256, (fun _ => 0#8), ((0 : Nat) : Int)) (by dsimp only; omega) ⟨rfl, Nat.zero_le _, Hold.nil, rfl⟩
  dsimp only at hn h2
  subst hn
  exact ⟨s2, b2, hI, X, hX, hX2, h2⟩
theorem shaKnown_true : lethelaw02_ShaKnown true := by
  refine ⟨_, moves_ok, ?_⟩
  rw [if_pos rfl]
  have h0 := sum_ok (P := []) (by decide) (by decide)
  have h1 := sum_ok (P := [[97#8, 98#8, 99#8]]) (by decide) (by decide)
  refine ⟨_, h0, ?_⟩
  rw [if_pos (eqB_eval known0)]
  refine ⟨_, h1, ?_⟩
  rw [if_pos (eqB_eval known3)]
  obtain ⟨m97, m98, hI, X, hX, hX2, hH⟩ := writes_ok
  refine ⟨_, _, _, rfl, List.replicate 1000 97#8, ?_, m97, m98, _, hI, _, rfl, ?_⟩
  · refine Iter.count (fun i => (List.replicate i 97#8 ++ List.replicate (1000 - i) 0#8, i)) 1000 (fun i hi => ?_) ?_
    · unfold lethelaw02_ShaKnown_l0
      dsimp only
      rw [if_pos hi]
      refine ⟨by rw [List.length_replicate]; exact hi, ?_⟩
      rw [show 1000 - i = (999 - i) + 1 by omega, List.replicate_succ (n := 999 - i), rep_succ, show 1000 - (i + 1) = 999 - i by omega]
    · unfold lethelaw02_ShaKnown_l0
      dsimp only
      rw [if_neg (by omega), Nat.sub_self, List.replicate_zero, List.append_nil]
  · rw [if_pos rfl]
    exact million_sum hX hX2 hH
end Go.Proofs.YtjdgbahjpdopbaaDoor
