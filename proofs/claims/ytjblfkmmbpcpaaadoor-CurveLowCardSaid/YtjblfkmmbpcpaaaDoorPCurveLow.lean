/-
  PLAIN LAW OF CurveLow (own work): just the five low points are refused.
-/
import Derived.Test.YtjblfkmmbpcpaaaDoorPm
import Derived.Test.YtjblfkmmbpcpaaaDoorRCurveLow
namespace Go.Proofs.YtjblfkmmbpcpaaaDoor
set_option linter.unusedSimpArgs false
set_option linter.unusedVariables false
set_option linter.unusedSectionVars false
open Go Go.LW
set_option maxRecDepth 10000

def ffA (i : Nat) : Nat → BitVec 8 := fun q => if q = 0 then 236#8 else if q < i then 255#8 else 0#8
def lowC : Nat → BitVec 8 := upd (ffA 31) 31 (127#8)
def lowD : Nat → BitVec 8 := lit [224#8, 235#8, 122#8, 124#8, 59#8, 65#8, 184#8, 174#8, 22#8, 86#8, 227#8, 250#8, 241#8, 159#8, 196#8, 106#8, 218#8, 9#8, 141#8, 235#8, 156#8, 50#8, 177#8, 253#8, 134#8, 98#8, 5#8, 22#8, 95#8, 73#8, 184#8, 0#8]
def lowE : Nat → BitVec 8 := lit [95#8, 156#8, 149#8, 188#8, 163#8, 80#8, 140#8, 36#8, 177#8, 208#8, 177#8, 85#8, 156#8, 131#8, 239#8, 91#8, 4#8, 68#8, 92#8, 196#8, 88#8, 28#8, 142#8, 134#8, 216#8, 34#8, 78#8, 221#8, 208#8, 159#8, 17#8, 87#8]
def lowP : Nat → BitVec 8 := lit [237#8, 255#8, 255#8, 255#8, 255#8, 255#8, 255#8, 255#8, 255#8, 255#8, 255#8, 255#8, 255#8, 255#8, 255#8, 255#8, 255#8, 255#8, 255#8, 255#8, 255#8, 255#8, 255#8, 255#8, 255#8, 255#8, 255#8, 255#8, 255#8, 255#8, 255#8, 127#8]
def lowQ : Nat → BitVec 8 := lit [238#8, 255#8, 255#8, 255#8, 255#8, 255#8, 255#8, 255#8, 255#8, 255#8, 255#8, 255#8, 255#8, 255#8, 255#8, 255#8, 255#8, 255#8, 255#8, 255#8, 255#8, 255#8, 255#8, 255#8, 255#8, 255#8, 255#8, 255#8, 255#8, 255#8, 255#8, 127#8]
def lows : List (Nat → BitVec 8) := [(fun _ => 0#8), (upd (fun _ => 0#8) 0 (1#8)), lowC, lowD, lowE]
theorem low_ok : lethelaw07_low lows := by
  refine ⟨ffA 31, ?_, rfl⟩
  have e0 : upd (fun _ => 0#8) 0 (236#8) = ffA 1 := by
    funext q; rw [upd_at]; unfold ffA
    by_cases h : q = 0
    · rw [if_pos h, if_pos h]
    · rw [if_neg h, if_neg h, if_neg (by omega)]
  rw [e0]
  refine Iter.count (fun i => (1 + i, ffA (1 + i))) 30 (fun i hi => ?_) ?_
  · unfold lethelaw07_low_l0; dsimp only
    rw [if_pos (by omega)]
    have e : upd (ffA (1 + i)) (1 + i) (255#8) = ffA (1 + (i + 1)) := by
      funext q; rw [upd_at]; unfold ffA
      by_cases h : q = 1 + i
      · rw [if_pos h, if_neg (by omega), if_pos (by omega)]
      · rw [if_neg h]
        by_cases h0 : q = 0
        · rw [if_pos h0, if_pos h0]
        · rw [if_neg h0, if_neg h0]
          by_cases h2 : q < 1 + i
          · rw [if_pos h2, if_pos (by omega)]
          · rw [if_neg h2, if_neg (by omega)]
    rw [e]; rfl
  · unfold lethelaw07_low_l0; dsimp only; rw [if_neg (by omega)]
/-- u without its highest bit -/
def plainF (u : Nat → BitVec 8) : Nat → BitVec 8 := upd u 31 (u 31 &&& 127#8)
theorem plain_num (u : Nat → BitVec 8) : numB (plainF u) 32 = numB u 32 % 2 ^ 255 := by
  have h1 : ∀ x : BitVec 8, (x &&& 127#8).toNat = x.toNat % 128 := by decide +kernel
  have e : numB u 32 = numB u 31 + (u 31).toNat * 256 ^ 31 := rfl
  have e2 : numB (plainF u) 32 = numB (plainF u) 31 + (plainF u 31).toNat * 256 ^ 31 := rfl
  have e3 : numB (plainF u) 31 = numB u 31 := numB_congr' 31 fun q hq => by unfold plainF; rw [upd_ne _ _ _ _ (by omega)]
  have e4 : (plainF u 31).toNat = (u 31).toNat % 128 := by unfold plainF; rw [upd_same, h1]
  have hl := numB_lt u 31
  rw [e2, e3, e4, e]
  generalize numB u 31 = a at *
  have hx := (u 31).isLt
  generalize (u 31).toNat = b at *
  omega
theorem ofB_plain (u : Nat → BitVec 8) : ofB u = ofN (numB (plainF u) 32) := by unfold ofB; rw [plain_num]
theorem nP : numB lowP 32 = p255 := by decide +kernel
theorem nQ : numB lowQ 32 = p255 + 1 := by decide +kernel
theorem n0 : numB (fun _ => 0#8) 32 = 0 := numB_zero
theorem n1 : numB (upd (fun _ => 0#8) 0 (1#8)) 32 = 1 := numB_single 1#8
theorem nC : numB lowC 32 = p255 - 1 := by decide +kernel
theorem nD : numB lowD 32 = lowA := by decide +kernel
theorem nE : numB lowE 32 = lowB := by decide +kernel
def badB (u : Nat → BitVec 8) : Bool := eqB 32 (plainF u) lowP || eqB 32 (plainF u) lowQ || eqB 32 (plainF u) (fun _ => 0#8) || eqB 32 (plainF u) (upd (fun _ => 0#8) 0 (1#8)) || eqB 32 (plainF u) lowC || eqB 32 (plainF u) lowD || eqB 32 (plainF u) lowE
theorem low_nums : lowA < p255 ∧ lowB < p255 ∧ 19 < lowA ∧ 19 < lowB ∧ 40 < p255 ∧ p255 + 19 = 2 ^ 255 := by decide +kernel
theorem bad_iff (u : Nat → BitVec 8) : badB u = true ↔ LowU (ofB u) := by
  have hv : numB (plainF u) 32 < 2 ^ 255 := by rw [plain_num]; exact Nat.mod_lt _ (by decide)
  obtain ⟨l1, l2, l3, l4, l5, l6⟩ := low_nums
  unfold badB LowU
  rw [ofB_plain]
  simp only [Bool.or_eq_true, eqB_iffN, nP, nQ, n0, n1, nC, nD, nE]
  have z : (0 : Fp) = ofN 0 := by decide +kernel
  rw [z]
  simp only [ofN_eq]
  clear z
  generalize numB (plainF u) 32 = v at *
  rw [← l6] at hv
  generalize p255 = p at *
  generalize lowA = a at *
  generalize lowB = b at *
  have e0 : 0 % p = 0 := Nat.zero_mod p
  have e1 : 1 % p = 1 := Nat.mod_eq_of_lt (by omega)
  have e2 : (p - 1) % p = p - 1 := Nat.mod_eq_of_lt (by omega)
  have e3 : a % p = a := Nat.mod_eq_of_lt l1
  have e4 : b % p = b := Nat.mod_eq_of_lt l2
  rw [e0, e1, e2, e3, e4]
  by_cases h : v < p
  · rw [Nat.mod_eq_of_lt h]; omega
  · have e5 : v % p = v - p := by
      rw [Nat.mod_eq_sub_mod (by omega), Nat.mod_eq_of_lt (by omega)]
    rw [e5]; omega
theorem low_step (u : Nat → BitVec 8) (bad : Bool) {i : Nat} (hi : i < 5) : lethelaw07_CurveLow_l0 lows u (bad, i) (.inl (bad || eqB 32 (plainF u) (lows.getD i (fun _ => 0#8)), i + 1)) := by
  unfold lethelaw07_CurveLow_l0; dsimp only
  rw [if_pos (show i < lows.length from hi)]
  cases bad with
  | true => rw [if_pos rfl]; exact ⟨by omega, rfl⟩
  | false =>
    rw [if_neg (by decide)]
    refine ⟨hi, ?_⟩
    rw [show upd u 31 (u 31 &&& 127#8) = plainF u from rfl]
    cases eqB 32 (plainF u) (lows.getD i (fun _ => 0#8)) with
    | true => rw [if_pos rfl]; exact ⟨by omega, rfl⟩
    | false => rw [if_neg (by decide)]; exact ⟨by omega, rfl⟩
theorem curveLow_true (k u : Nat → BitVec 8) (w : Int) (top : Bool) : lethelaw07_CurveLow k u w top true := by
  have hw := Int.tmod_lt_of_pos w (show (0 : Int) < 6 by decide)
  have hw2 : -6 < w.tmod 6 := by
    rcases Int.le_total 0 w with h | h
    · have := Int.tmod_nonneg 6 h; omega
    · have h3 := Int.tmod_nonneg 6 (show 0 ≤ -w by omega)
      have h4 := Int.tmod_lt_of_pos (-w) (show (0 : Int) < 6 by decide)
      rw [Int.neg_tmod] at h3 h4
      omega
  have hn : ∃ n : Int, 0 ≤ n ∧ (if (w.tmod 6) < 0 then n = (w.tmod 6) + 6 else n = w.tmod 6) := by
    by_cases h : w.tmod 6 < 0
    · exact ⟨w.tmod 6 + 6, by omega, by rw [if_pos h]⟩
    · exact ⟨w.tmod 6, by omega, by rw [if_neg h]⟩
  obtain ⟨n, hn0, hn⟩ := hn
  have hm : ∃ m39 : Nat → BitVec 8, (if n < 5 then (0 ≤ n ∧ n < lows.length) ∧ m39 = lows.getD n.toNat (fun _ => 0#8) else m39 = u) := by
    by_cases h : n < 5
    · exact ⟨_, by rw [if_pos h]; exact ⟨⟨hn0, h⟩, rfl⟩⟩
    · exact ⟨_, by rw [if_neg h]⟩
  obtain ⟨m39, hm⟩ := hm
  have ht : ∃ m51 : Nat → BitVec 8, (if top = true then m51 = (upd m39 31 ((m39 31) ^^^ (128#8))) else m51 = m39) := by
    cases top with
    | true => exact ⟨_, by rw [if_pos rfl]⟩
    | false => exact ⟨_, by rw [if_neg (by decide)]⟩
  obtain ⟨m51, ht⟩ := ht
  refine ⟨lows, low_ok, n, hn, m39, hm, m51, ht, _, _, sh_ok k m51, (eqB 32 (plainF m51) lowP || eqB 32 (plainF m51) lowQ), ?_, badB m51, ?_, true, fixed_ok, ?_⟩
  · rw [show upd m51 31 (m51 31 &&& 127#8) = plainF m51 from rfl, show (lit [237#8, 255#8, 255#8, 255#8, 255#8, 255#8, 255#8, 255#8, 255#8, 255#8, 255#8, 255#8, 255#8, 255#8, 255#8, 255#8, 255#8, 255#8, 255#8, 255#8, 255#8, 255#8, 255#8, 255#8, 255#8, 255#8, 255#8, 255#8, 255#8, 255#8, 255#8, 127#8] : Nat → BitVec 8) = lowP from rfl, show (lit [238#8, 255#8, 255#8, 255#8, 255#8, 255#8, 255#8, 255#8, 255#8, 255#8, 255#8, 255#8, 255#8, 255#8, 255#8, 255#8, 255#8, 255#8, 255#8, 255#8, 255#8, 255#8, 255#8, 255#8, 255#8, 255#8, 255#8, 255#8, 255#8, 255#8, 255#8, 127#8] : Nat → BitVec 8) = lowQ from rfl]
    cases eqB 32 (plainF m51) lowP with
    | true => rw [if_pos rfl]; rfl
    | false =>
      rw [if_neg (by decide)]
      cases eqB 32 (plainF m51) lowQ with
      | true => rw [if_pos rfl]; rfl
      | false => rw [if_neg (by decide)]; rfl
  · exact Iter.more (low_step m51 _ (by decide)) (Iter.more (low_step m51 _ (by decide)) (Iter.more (low_step m51 _ (by decide)) (Iter.more (low_step m51 _ (by decide)) (Iter.more (low_step m51 _ (by decide)) (Iter.done (by
      unfold lethelaw07_CurveLow_l0; dsimp only
      rw [if_neg (show ¬ 5 < lows.length by decide)]; rfl))))))
  · obtain ⟨c1, c2, c3⟩ := clamp_bds k
    by_cases hb : badB m51 = true
    · have hl := (bad_iff m51).1 hb
      have h0 := low_bad c1 c3 hl
      rw [if_pos hb, if_pos rfl, if_pos (shE_bad h0)]
      refine (eqB_iffN.2 ?_).symm
      rw [tm_num, numB_zero, h0]; rfl
    · have hz : timesN (numB (clampF k) 32) (ofB m51) ≠ 0 := fun e => hb ((bad_iff m51).2 (low_only c1 c2 c3 e))
      rw [if_neg hb, if_pos rfl, if_pos (shE_zero hz)]
      refine ⟨_, tm_ok k m51, ?_⟩
      rw [if_pos (eqB_iff.2 fun _ _ => rfl)]
      have hne : eqB 32 (tmR k m51) (fun _ => 0#8) = false := Bool.eq_false_iff.2 fun h3 => by
        have := eqB_iffN.1 h3
        rw [tm_num, numB_zero] at this
        exact hz (Fin.ext this)
      rw [hne]; rfl
end Go.Proofs.YtjblfkmmbpcpaaaDoor
