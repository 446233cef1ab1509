/-
  PLAIN LAW OF AgreeMeets (own work): both sides come to one secret, or to the same error.
-/
import Derived.Test.YtjclppnbbpnfnaaDoorPm
import Derived.Test.YtjclppnbbpnfnaaDoorRAgreeMeets
namespace Go.Proofs.YtjclppnbbpnfnaaDoor
set_option linter.unusedSimpArgs false
set_option linter.unusedVariables false
set_option linter.unusedSectionVars false
open Go Go.LW
set_option maxRecDepth 10000

theorem secA_congr {a b c a' b' c' : Nat → Byte} (h1 : dl 32 a = dl 32 a') (h2 : dl 32 b = dl 32 b') (h3 : dl 32 c = dl 32 c') : outA a b c = outA a' b' c' := by
  unfold outA inA; rw [h1, h2, h3]
def bndJ (a b : Nat → Byte) (i : Nat) : Nat → Byte := fun q => if q < i then a q else if 32 ≤ q ∧ q < 32 + i then b (q - 32) else 0#8
theorem bind_ok (a b : Nat → Byte) : letheref17_Bind a b (bndJ a b 32) := by
  refine ⟨_, ?_, rfl⟩
  have e0 : bndJ a b 0 = fun _ => 0#8 := by funext q; unfold bndJ; rw [if_neg (by omega), if_neg (by omega)]
  have key : Iter (letheref17_Bind_l0 a b) (0, bndJ a b 0) (bndJ a b 32) :=
    Iter.count (fun i => (i, bndJ a b i)) 32 (fun i hi => by
      unfold letheref17_Bind_l0; dsimp only
      rw [if_pos hi]
      have e : upd (upd (bndJ a b i) i (a i)) (32 + i) (b i) = bndJ a b (i + 1) := by
        funext q
        rw [upd_at, upd_at]
        unfold bndJ
        by_cases h1 : q = 32 + i
        · subst h1; rw [if_pos rfl, if_neg (by omega), if_pos (by omega)]; congr 1; omega
        · rw [if_neg h1]
          by_cases h2 : q = i
          · subst h2; rw [if_pos rfl, if_pos (by omega)]
          · rw [if_neg h2]
            by_cases h3 : q < i
            · rw [if_pos h3, if_pos (by omega)]
            · rw [if_neg h3, if_neg (show ¬ q < i + 1 by omega)]
              by_cases h4 : 32 ≤ q ∧ q < 32 + i
              · rw [if_pos h4, if_pos (by omega)]
              · rw [if_neg h4, if_neg (by omega)]
      rw [e]) (by
      unfold letheref17_Bind_l0; dsimp only; rw [if_neg (by omega)])
  rwa [e0] at key
theorem bnd_eq (a b : Nat → Byte) : eqB 64 (bndA a b) (bndJ a b 32) = true := eqB_iff.2 fun q hq => by
  unfold bndA bndJ
  by_cases h : q < 32
  · rw [if_pos h, spl_out _ _ _ _ _ (by omega), spl_in _ _ _ _ _ (by omega), lit_dl _ (by omega)]; rfl
  · rw [if_neg h, if_pos (by omega), spl_in _ _ _ _ _ (by omega), lit_dl _ (by omega)]
theorem agreeMeets_true (a e b p : Nat → Byte) (n : BitVec 32) : lethelaw17_AgreeMeets a e b p n true := by
  refine ⟨_, _, pair_ok a, _, _, pair_ok e, _, _, pair_ok b, _, _, pair_ok p, ?_⟩
  by_cases hn : n = 0#32
  · subst hn
    refine ⟨_, _, _, _, _, _, _, start_none _ _ _ _ _ _, ?_⟩
    rw [if_pos rfl, if_pos (by simp only [eqA]; decide)]
    refine ⟨_, _, _, _, _, _, _, meet_none _ _ _ _ _ _, ?_⟩
    simp only [eqA]; decide
  refine ⟨_, _, _, _, _, _, _, start_good _ _ _ _ _ _ n hn (sh_pair a p) (sh_pair e b) (sh_pair e p), ?_⟩
  rw [if_neg hn]
  refine ⟨_, _, _, _, _, _, _, meet_good _ _ _ _ _ _ n hn (sh_pair p a) (sh_pair b e) (sh_pair p e), ?_⟩
  rw [if_neg (by decide), if_neg (by decide)]
  have hO := secA_congr (tm_sym a p) (tm_sym e b) (tm_sym e p)
  have hs : secA (tmR (clampF a) (pbR p)) (tmR (clampF e) (pbR b)) (tmR (clampF e) (pbR p)) = secA (tmR (clampF p) (pbR a)) (tmR (clampF b) (pbR e)) (tmR (clampF p) (pbR e)) := by unfold secA; rw [hO]
  have hi : sidA (tmR (clampF a) (pbR p)) (tmR (clampF e) (pbR b)) (tmR (clampF e) (pbR p)) = sidA (tmR (clampF p) (pbR a)) (tmR (clampF b) (pbR e)) (tmR (clampF p) (pbR e)) := by unfold sidA; rw [hO]
  rw [hs, hi, eqA, eqA, eqA, eqA, eqA]
  rw [if_pos (by simp), if_pos rfl, if_pos rfl, if_pos rfl]
  exact ⟨_, bind_ok _ _, (bnd_eq _ _).symm⟩
end Go.Proofs.YtjclppnbbpnfnaaDoor
