/-
  PLAIN LAW OF CurveAgrees (own work): two pairs make one secret on both sides.
-/
import Derived.Test.YtjblfkmmbpcpaaaDoorPOrder
import Derived.Test.YtjblfkmmbpcpaaaDoorRCurveAgrees
namespace Go.Proofs.YtjblfkmmbpcpaaaDoor
set_option linter.unusedSimpArgs false
set_option linter.unusedVariables false
set_option linter.unusedSectionVars false
open Go Go.LW
set_option maxRecDepth 10000

theorem pub_rp (k : Nat → BitVec 8) : ∃ r, curve_Public k r ∧ numB r 32 = (timesN (numB (clampF k) 32) (ofN 9)).val := by
  obtain ⟨r, h1, h2⟩ := times_rp k (upd (fun _ => 0#8) 0 9#8)
  have b9 : ofB (upd (fun _ => 0#8) 0 9#8) = ofN 9 := by
    unfold ofB
    rw [numB_single]; exact ofN_eq.2 (by decide +kernel)
  rw [b9] at h2
  exact ⟨r, ⟨_, h1, rfl⟩, h2⟩
theorem clampA (k : Nat → BitVec 8) (q : Nat) : clampF k q = if q = 31 then (k 31 &&& 127#8) ||| 64#8 else if q = 0 then k 0 &&& ~~~7#8 else k q := by
  unfold clampF
  rw [upd_at]
  by_cases h : q = 31
  · rw [if_pos h, if_pos h, upd_ne _ _ _ _ (by omega)]
  · rw [if_neg h, if_neg h, upd_at]
theorem clampE (k k' : Nat → BitVec 8) (h : ∀ q, q < 32 → k q = k' q) : ∀ q, q < 32 → clampF k q = clampF k' q := fun q hq => by
  rw [clampA k, clampA k', h 31 (by omega), h 0 (by omega), h q hq]
theorem clamp2 (k : Nat → BitVec 8) (q : Nat) : clampF (clampF k) q = clampF k q := by
  have a1 : ∀ x : BitVec 8, (((x &&& 127#8) ||| 64#8) &&& 127#8) ||| 64#8 = (x &&& 127#8) ||| 64#8 := by decide +kernel
  have a2 : ∀ x : BitVec 8, (x &&& ~~~7#8) &&& ~~~7#8 = x &&& ~~~7#8 := by decide +kernel
  have e31 : clampF k 31 = (k 31 &&& 127#8) ||| 64#8 := by rw [clampA, if_pos rfl]
  have e0 : clampF k 0 = k 0 &&& ~~~7#8 := by rw [clampA, if_neg (by omega), if_pos rfl]
  rw [clampA (clampF k), e31, e0, a1, a2, clampA k q]
  by_cases h : q = 31
  · rw [if_pos h, if_pos h]
  · rw [if_neg h, if_neg h]
    by_cases h2 : q = 0
    · rw [if_pos h2, if_pos h2]
    · rw [if_neg h2, if_neg h2]
/-- a pair out of 32 bytes -/
theorem pair_rp (X : List Byte) (hX : X.length = 32) : ∃ r, curve_NewPair X (clampF (lit X), r, 0) ∧ numB r 32 = (timesN (numB (clampF (lit X)) 32) (ofN 9)).val := by
  obtain ⟨r, h1, h2⟩ := pub_rp (clampF (lit X))
  rw [numB_congr' 32 (fun q _ => clamp2 (lit X) q)] at h2
  refine ⟨r, ?_, h2⟩
  unfold curve_NewPair
  rw [if_neg (fun h => h hX)]
  exact ⟨by omega, _, clamp_ok _, r, h1, rfl⟩
theorem shared_rp (k u : Nat → BitVec 8) {x : Fp} (h : timesN (numB (clampF k) 32) (ofB u) = x) (hx : x ≠ 0) : ∃ r, curve_Shared k u (r, 0) ∧ numB r 32 = x.val := by
  obtain ⟨r, h1, h2⟩ := times_rp k u
  rw [h] at h2
  refine ⟨r, ⟨r, h1, ?_⟩, h2⟩
  rw [if_neg]
  intro h3
  have := eqB_iffN.1 h3
  rw [h2, numB_zero] at this
  exact hx (Fin.ext this)
theorem curveAgrees_true (a b : Nat → BitVec 8) : lethelaw07_CurveAgrees a b true := by
  have la : ∀ k : Nat → BitVec 8, numB (clampF (lit (dl 32 k))) 32 = numB (clampF k) 32 := fun k => numB_congr' 32 (clampE _ _ fun q hq => lit_dl k hq)
  obtain ⟨pa, a1, a2⟩ := pair_rp (dl 32 a) (dl_length _ _)
  obtain ⟨pb, b1, b2⟩ := pair_rp (dl 32 b) (dl_length _ _)
  rw [la] at a2 b2
  obtain ⟨ca1, ca2, ca3⟩ := clamp_bds a
  obtain ⟨cb1, cb2, cb3⟩ := clamp_bds b
  have hne := agree_ne ca1 ca2 ca3 cb1 cb2 cb3
  have hne2 := agree_ne cb1 cb2 cb3 ca1 ca2 ca3
  have hcm := times_comm ca1 cb1 (ofN 9)
  have kk : ∀ k : Nat → BitVec 8, numB (clampF (clampF (lit (dl 32 k)))) 32 = numB (clampF k) 32 := fun k => by rw [numB_congr' 32 (fun q _ => clamp2 _ q), la]
  obtain ⟨x, x1, x2⟩ := shared_rp (clampF (lit (dl 32 a))) pb (x := timesN (numB (clampF a) 32) (timesN (numB (clampF b) 32) (ofN 9))) (by rw [kk, ofB_val b2]) hne
  obtain ⟨y, y1, y2⟩ := shared_rp (clampF (lit (dl 32 b))) pa (x := timesN (numB (clampF b) 32) (timesN (numB (clampF a) 32) (ofN 9))) (by rw [kk, ofB_val a2]) hne2
  obtain ⟨qb, c1, c2⟩ := pub_rp b
  obtain ⟨z, z1, z2⟩ := times_rp a qb
  rw [ofB_val c2] at z2
  obtain ⟨qa, e1, e2⟩ := pub_rp a
  refine ⟨_, pa, 0, a1, _, pb, 0, b1, x, 0, x1, y, 0, y1, qb, c1, z, z1, true, fixed_ok, ?_⟩
  rw [if_pos rfl, if_pos rfl, if_pos rfl, if_pos rfl, if_pos rfl, if_pos (eqB_iffN.2 (by rw [x2, y2, hcm])), if_pos (eqB_iffN.2 (by rw [x2, z2]))]
  refine ⟨_, clamp_ok a, ?_⟩
  rw [if_pos (eqB_iff.2 fun q hq => clampE _ _ (fun q hq => lit_dl a hq) q hq)]
  exact ⟨qa, e1, (eqB_iffN.2 (by rw [a2, e2])).symm⟩
end Go.Proofs.YtjblfkmmbpcpaaaDoor
