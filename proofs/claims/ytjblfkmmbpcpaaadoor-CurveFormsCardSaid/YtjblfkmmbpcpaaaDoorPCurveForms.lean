/-
  PLAIN LAW OF CurveForms (own work): bits that don't count.
-/
import Derived.Test.YtjblfkmmbpcpaaaDoorPFixed
import Derived.Test.YtjblfkmmbpcpaaaDoorRCurveForms
namespace Go.Proofs.YtjblfkmmbpcpaaaDoor
set_option linter.unusedSimpArgs false
set_option linter.unusedVariables false
set_option linter.unusedSectionVars false
open Go Go.LW
set_option maxRecDepth 10000

theorem ofB_num {b b' : Nat → BitVec 8} (h : numB b 32 % 2 ^ 255 = numB b' 32 % 2 ^ 255) : ofB b = ofB b' := by unfold ofB; rw [h]
theorem top_num (u : Nat → BitVec 8) : numB (upd u 31 (u 31 ^^^ 128#8)) 32 % 2 ^ 255 = numB u 32 % 2 ^ 255 := by
  have hN : numB u 32 = numB u 31 + (u 31).toNat * 256 ^ 31 := rfl
  have hlow := numB_congr' (b := upd u 31 (u 31 ^^^ 128#8)) (b' := u) 31 (fun q hq => upd_ne _ _ _ _ (by omega))
  have hN' : numB (upd u 31 (u 31 ^^^ 128#8)) 32 = numB u 31 + (u 31 ^^^ 128#8).toNat * 256 ^ 31 := by
    show numB (upd u 31 (u 31 ^^^ 128#8)) 31 + (upd u 31 (u 31 ^^^ 128#8) 31).toNat * 256 ^ 31 = _
    rw [hlow, upd_same]
  have hx : ∀ x : BitVec 8, (x ^^^ 128#8).toNat % 128 = x.toNat % 128 := by decide +kernel
  have h1 := hx (u 31)
  have hlt := numB_lt u 31
  rw [hN, hN']
  generalize numB u 31 = a at hlt ⊢
  generalize (u 31 ^^^ 128#8).toNat = x at h1 ⊢
  generalize (u 31).toNat = y at h1 ⊢
  omega
theorem clamp_num {k k' : Nat → BitVec 8} (h : ∀ q, q < 32 → clampF k q = clampF k' q) : numB (clampF k) 32 = numB (clampF k') 32 := numB_congr' 32 h
theorem clamp_at (k : Nat → BitVec 8) (q : Nat) : clampF k q = if q = 31 then (k 31 &&& 127#8) ||| 64#8 else if q = 0 then k 0 &&& ~~~7#8 else k q := by
  unfold clampF
  rw [upd_at]
  by_cases h : q = 31
  · rw [if_pos h, if_pos h, upd_ne _ _ _ _ (by omega)]
  · rw [if_neg h, if_neg h, upd_at]
def turnF (k : Nat → BitVec 8) : Nat → BitVec 8 := upd (upd k 0 ((k 0) ^^^ (7#8))) 31 (((upd k 0 ((k 0) ^^^ (7#8))) 31) ^^^ (192#8))
theorem clamp_turn (k : Nat → BitVec 8) : numB (clampF (turnF k)) 32 = numB (clampF k) 32 := clamp_num fun q hq => by
  rw [clamp_at, clamp_at]
  have h0 : turnF k 0 = k 0 ^^^ 7#8 := by unfold turnF; rw [upd_ne _ _ _ _ (by omega), upd_same]
  have h31 : turnF k 31 = k 31 ^^^ 192#8 := by unfold turnF; rw [upd_same, upd_ne _ _ _ _ (by omega)]
  have a1 : ∀ x : BitVec 8, ((x ^^^ 192#8) &&& 127#8) ||| 64#8 = (x &&& 127#8) ||| 64#8 := by decide +kernel
  have a2 : ∀ x : BitVec 8, (x ^^^ 7#8) &&& ~~~7#8 = x &&& ~~~7#8 := by decide +kernel
  by_cases h : q = 31
  · rw [if_pos h, if_pos h, h31, a1]
  · rw [if_neg h, if_neg h]
    by_cases h2 : q = 0
    · rw [if_pos h2, if_pos h2, h0, a2]
    · rw [if_neg h2, if_neg h2]
      unfold turnF
      rw [upd_ne _ _ _ _ h, upd_ne _ _ _ _ h2]
theorem clamp_clamp (k : Nat → BitVec 8) (q : Nat) : clampF (clampF k) q = clampF k q := by
  rw [clamp_at (clampF k), clamp_at k q]
  have a1 : ∀ x : BitVec 8, (((x &&& 127#8) ||| 64#8) &&& 127#8) ||| 64#8 = (x &&& 127#8) ||| 64#8 := by decide +kernel
  have a2 : ∀ x : BitVec 8, (x &&& ~~~7#8) &&& ~~~7#8 = x &&& ~~~7#8 := by decide +kernel
  by_cases h : q = 31
  · rw [if_pos h, if_pos h, clamp_at, if_pos rfl, a1]
  · rw [if_neg h, if_neg h]
    by_cases h2 : q = 0
    · rw [if_pos h2, if_pos h2, clamp_at, if_neg (by omega), if_pos rfl, a2]
    · rw [if_neg h2, if_neg h2]
def ffF (i : Nat) : Nat → BitVec 8 := fun q => if q < i then 255#8 else 0#8
theorem ff_ok : Iter (lethelaw07_CurveForms_l0) (0, (fun _ => 0#8)) (ffF 32) := by
  have e : (fun _ => 0#8) = ffF 0 := by funext q; unfold ffF; rw [if_neg (by omega)]
  rw [e]
  refine Iter.count (fun i => (i, ffF i)) 32 (fun i hi => ?_) ?_
  · unfold lethelaw07_CurveForms_l0; dsimp only
    rw [if_pos hi]
    have : upd (ffF i) i 255#8 = ffF (i + 1) := by
      funext q
      rw [upd_at]
      unfold ffF
      by_cases h : q = i
      · rw [if_pos h, if_pos (by omega)]
      · rw [if_neg h]
        by_cases h2 : q < i
        · rw [if_pos h2, if_pos (by omega)]
        · rw [if_neg h2, if_neg (by omega)]
    rw [this]
  · unfold lethelaw07_CurveForms_l0; dsimp only
    rw [if_neg (by omega)]
theorem over_num (v : BitVec 8) : numB (upd (ffF 32) 0 v) 32 = v.toNat + (2 ^ 256 - 256) := by
  have h1 := numB_split (upd (ffF 32) 0 v) 1 31
  have h2 : numB (fun q => upd (ffF 32) 0 v (1 + q)) 31 = numB (fun _ => 255#8) 31 := numB_congr' 31 fun q hq => by
    show upd (ffF 32) 0 v (1 + q) = 255#8
    rw [upd_ne _ _ _ _ (by omega)]
    unfold ffF
    rw [if_pos (by omega)]
  have h3 : 256 ^ 1 * numB (fun _ => 255#8) 31 = 2 ^ 256 - 256 := by decide +kernel
  have h4 : numB (upd (ffF 32) 0 v) 1 = v.toNat := by simp [numB, upd_same]
  rw [show 1 + 31 = 32 by decide, h2, h3, h4] at h1
  exact h1
theorem over_of {n : Nat} (hn : n < 19) : ofB (upd (ffF 32) 0 (BitVec.ofInt 8 (237 + (n : Int)))) = ofN n ∧ ofB (upd (fun _ => 0#8) 0 (BitVec.ofInt 8 (n : Int))) = ofN n := by
  have e1 : (BitVec.ofInt 8 (237 + (n : Int))).toNat = 237 + n := by rw [BitVec.toNat_ofInt]; omega
  have e2 : (BitVec.ofInt 8 (n : Int)).toNat = n := by rw [BitVec.toNat_ofInt]; omega
  have hp : p255 = 57896044618658097711785492504343953926634992332820282019728792003956564819949 := by decide
  constructor
  · unfold ofB
    rw [over_num, e1]
    refine ofN_eq.2 ?_
    rw [hp]
    omega
  · unfold ofB
    rw [numB_single, e2]
    refine ofN_eq.2 ?_
    rw [hp]
    omega
theorem eqB_val {a b : Nat → BitVec 8} {x y : Nat} (ha : numB a 32 = x) (hb : numB b 32 = y) (h : x = y) : eqB 32 a b = true := eqB_iffN.2 (by rw [ha, hb, h])
theorem curveForms_true (k u : Nat → BitVec 8) (small : Int) : lethelaw07_CurveForms k u small true := by
  obtain ⟨r0, a0, b0⟩ := times_rp k u
  obtain ⟨r1, a1, b1⟩ := times_rp (turnF k) u
  obtain ⟨r2, a2, b2⟩ := times_rp (clampF k) (upd u 31 (u 31 ^^^ 128#8))
  rw [clamp_turn] at b1
  rw [clamp_num (fun q _ => clamp_clamp k q), ofB_num (top_num u)] at b2
  obtain ⟨n, hn, hn2⟩ : ∃ n : Nat, n < 19 ∧ (if (small.tmod 19) < 0 then ((n : Int) = ((small.tmod 19) + 19)) else ((n : Int) = (small.tmod 19))) := by
    have hb := tmod_bd small (c := 19) (by decide)
    by_cases h : small.tmod 19 < 0
    · exact ⟨(small.tmod 19 + 19).toNat, by omega, by rw [if_pos h]; omega⟩
    · exact ⟨(small.tmod 19).toNat, by omega, by rw [if_neg h]; omega⟩
  obtain ⟨o1, o2⟩ := over_of hn
  obtain ⟨r3, a3, b3⟩ := times_rp (turnF k) (upd (ffF 32) 0 (BitVec.ofInt 8 (237 + (n : Int))))
  obtain ⟨r4, a4, b4⟩ := times_rp (turnF k) (upd (fun _ => 0#8) 0 (BitVec.ofInt 8 (n : Int)))
  rw [o1] at b3
  rw [o2] at b4
  refine ⟨r0, a0, _, clamp_ok k, (n : Int), hn2, _, ff_ok, by omega, true, fixed_ok, ?_⟩
  rw [if_pos rfl]
  refine ⟨r1, a1, ?_⟩
  rw [if_pos (eqB_val b1 b0 rfl)]
  refine ⟨r2, a2, ?_⟩
  rw [if_pos (eqB_val b2 b0 rfl)]
  refine ⟨_, clamp_ok _, ?_⟩
  rw [if_pos (eqB_iff.2 fun q _ => clamp_clamp k q)]
  exact ⟨r3, a3, r4, a4, (eqB_val b3 b4 rfl).symm⟩
end Go.Proofs.YtjblfkmmbpcpaaaDoor
