/-
  PLAIN LAW OF AgreePoints (own work): keys that give no secret are refused wherever they stand.
-/
import Derived.Test.YtjclppnbbpnfnaaDoorPm
import Derived.Test.YtjclppnbbpnfnaaDoorRAgreePoints
namespace Go.Proofs.YtjclppnbbpnfnaaDoor
set_option linter.unusedSimpArgs false
set_option linter.unusedVariables false
set_option linter.unusedSectionVars false
open Go Go.LW
set_option maxRecDepth 10000

theorem m11 : (((0 : Fp) * 0 - 1 * 1) * 1) * (((0 : Fp) * 0 - 1 * 1) * 1) = 1 := by decide +kernel
/-- the point of order four -/
theorem times_one {K : Nat} (hK : K < 2 ^ 255) (h8 : K % 8 = 0) : timesN K 1 = 0 := by
  have hc := crv1
  have hP : On D1 ((1, 0) : P1) := by show (1 : Fp)^2 + 0^2 = 1 + D1 * 1^2 * 0^2; grind
  have h1 : (1 : Fp) ≠ 0 := by decide +kernel
  rw [times_mul hc h1 hP (by show (1 : Fp) * (1 - 0) = 1 * (1 + 0); grind) hK]
  have h2 : Two (emul D1 2 ((1, 0) : P1)) := by
    have e : emul D1 2 ((1, 0) : P1) = eadd D1 (1, 0) (1, 0) := by
      show eadd D1 (eadd D1 eO (1, 0)) (1, 0) = _
      rw [eadd_comm D1 eO, eadd_O]
    rw [e]
    have hx : eE D1 ((1, 0) : P1) (1, 0) = 0 := by show D1 * 1 * 1 * 0 * 0 = 0; grind
    refine ⟨?_, ?_⟩
    · show ((1 : Fp) * 0 + 0 * 1) * invN (1 + eE D1 (1, 0) (1, 0)) = 0
      grind
    · show (((0 : Fp) * 0 - 1 * 1) * invN (1 - eE D1 (1, 0) (1, 0))) * (((0 : Fp) * 0 - 1 * 1) * invN (1 - eE D1 (1, 0) (1, 0))) = 1
      rw [hx, sub0, inv_one]
      exact m11
  obtain ⟨m, rfl⟩ : ∃ m, K = m * 2 := ⟨K / 2, by omega⟩
  rw [emul_mul hc.1 hP 2 m]
  exact two_uu (two_mul D1 h2 m)
def badF (w : Int) : Nat → Byte := if w = 1 then upd (fun _ => 0#8) 0 (1#8) else if w = 2 then lit [237#8, 255#8, 255#8, 255#8, 255#8, 255#8, 255#8, 255#8, 255#8, 255#8, 255#8, 255#8, 255#8, 255#8, 255#8, 255#8, 255#8, 255#8, 255#8, 255#8, 255#8, 255#8, 255#8, 255#8, 255#8, 255#8, 255#8, 255#8, 255#8, 255#8, 255#8, 127#8]
  else if w = 3 then lit [238#8, 255#8, 255#8, 255#8, 255#8, 255#8, 255#8, 255#8, 255#8, 255#8, 255#8, 255#8, 255#8, 255#8, 255#8, 255#8, 255#8, 255#8, 255#8, 255#8, 255#8, 255#8, 255#8, 255#8, 255#8, 255#8, 255#8, 255#8, 255#8, 255#8, 255#8, 127#8] else fun _ => 0#8
theorem bad_of (w : Int) : ofB (badF w) = 0 ∨ ofB (badF w) = 1 := by
  have h0 : ofB (fun _ => 0#8) = 0 := by decide +kernel
  have h1 : ofB (upd (fun _ => 0#8) 0 (1#8)) = 1 := by decide +kernel
  have h2 : ofB (lit [237#8, 255#8, 255#8, 255#8, 255#8, 255#8, 255#8, 255#8, 255#8, 255#8, 255#8, 255#8, 255#8, 255#8, 255#8, 255#8, 255#8, 255#8, 255#8, 255#8, 255#8, 255#8, 255#8, 255#8, 255#8, 255#8, 255#8, 255#8, 255#8, 255#8, 255#8, 127#8]) = 0 := by decide +kernel
  have h3 : ofB (lit [238#8, 255#8, 255#8, 255#8, 255#8, 255#8, 255#8, 255#8, 255#8, 255#8, 255#8, 255#8, 255#8, 255#8, 255#8, 255#8, 255#8, 255#8, 255#8, 255#8, 255#8, 255#8, 255#8, 255#8, 255#8, 255#8, 255#8, 255#8, 255#8, 255#8, 255#8, 127#8]) = 1 := by decide +kernel
  unfold badF
  by_cases w1 : w = 1
  · rw [if_pos w1]; exact .inr h1
  rw [if_neg w1]
  by_cases w2 : w = 2
  · rw [if_pos w2]; exact .inl h2
  rw [if_neg w2]
  by_cases w3 : w = 3
  · rw [if_pos w3]; exact .inr h3
  rw [if_neg w3]; exact .inl h0
theorem sh_bad (a : Nat → Byte) (w : Int) : shE (clampF a) (badF w) ≠ 0 := by
  obtain ⟨c1, c2, c3⟩ := clamp_bds a
  rw [shE_bad]
  · decide
  · rw [numB_congr' 32 (fun q _ => clamp2 a q)]
    rcases bad_of w with h | h
    · rw [h]; exact times_zero _
    · rw [h]; exact times_one c1 c3
theorem agreePoints_true (k : Nat → Byte) (which wh : Int) : lethelaw17_AgreePoints k which wh true := by
  have hb := sh_bad k (((which.tmod 4) + 4).tmod 4)
  have hm : ∃ m21 : Nat → BitVec 8, m21 = badF (((which.tmod 4) + 4).tmod 4) := ⟨_, rfl⟩
  refine ⟨badF (((which.tmod 4) + 4).tmod 4), ?_, ?_⟩
  · generalize ((which.tmod 4) + 4).tmod 4 = w
    unfold badF
    by_cases w1 : w = 1
    · rw [if_pos w1, if_pos w1]
    rw [if_neg w1, if_neg w1]
    by_cases w2 : w = 2
    · rw [if_pos w2, if_pos w2]
    rw [if_neg w2, if_neg w2]
    by_cases w3 : w = 3
    · rw [if_pos w3, if_pos w3]
    rw [if_neg w3, if_neg w3]
  generalize badF (((which.tmod 4) + 4).tmod 4) = bad at hb
  have hs := sh_pair k k
  have h1 : (1#32 : BitVec 32) ≠ 0#32 := by decide
  refine ⟨_, _, pair_ok k, _, _, _, _, _, _, _, start_good (clampF k) (pbR k) (clampF k) (pbR k) (pbR k) (pbR k) 1#32 h1 hs hs hs, ?_⟩
  rw [if_neg (by decide)]
  refine ⟨_, _, _, _, _, _, _, meet_good (clampF k) (pbR k) (clampF k) (pbR k) (pbR k) (pbR k) 1#32 h1 hs hs hs, ?_⟩
  rw [if_pos (eqA _ _)]
  have fin : ∀ (m1 m2 m3 m4 : Nat → Byte), (shE (clampF k) m1 ≠ 0 ∨ shE (clampF k) m2 ≠ 0) → m3 = m1 → m4 = m2 →
      ∃ x_148 : Nat → BitVec 8, ∃ x_149 : Nat → BitVec 8, ∃ x_150 : Nat → BitVec 8, ∃ x_151 : Nat → BitVec 8, ∃ x_152 : Nat → BitVec 8, ∃ x_153 : BitVec 32, ∃ x_154 : Nat, lethelaw17_start (clampF k) (pbR k) (clampF k) (pbR k) m3 (1#32) m4 (x_148, x_149, x_150, x_151, x_152, x_153, x_154) ∧
      if ((eqB 32 x_148 (fun _ => 0#8)) && ((eqB 16 x_149 (fun _ => 0#8)) && ((eqB 64 x_150 (fun _ => 0#8)) && (((eqB 32 x_151 (fun _ => 0#8)) && ((eqB 32 x_152 (fun _ => 0#8)) && ((decide (x_153 = 0#32)) && true))) && ((decide ((x_154 : Nat) = 70)) && true))))) = true then (
        ∃ x_158 : Nat → BitVec 8, ∃ x_159 : Nat → BitVec 8, ∃ x_160 : Nat → BitVec 8, ∃ x_161 : Nat → BitVec 8, ∃ x_162 : Nat → BitVec 8, ∃ x_163 : BitVec 32, ∃ x_164 : Nat, lethelaw17_meet (clampF k) (pbR k) (clampF k) (pbR k) m1 m2 (1#32) (x_158, x_159, x_160, x_161, x_162, x_163, x_164) ∧
        if ((eqB 32 x_158 (fun _ => 0#8)) && ((eqB 16 x_159 (fun _ => 0#8)) && ((eqB 64 x_160 (fun _ => 0#8)) && (((eqB 32 x_161 (fun _ => 0#8)) && ((eqB 32 x_162 (fun _ => 0#8)) && ((decide (x_163 = 0#32)) && true))) && ((decide ((x_164 : Nat) = 70)) && true))))) = true then (
          ∃ x_176 : Nat → BitVec 8, ∃ x_177 : Nat → BitVec 8, ∃ x_178 : Nat → BitVec 8, ∃ x_179 : Nat → BitVec 8, ∃ x_180 : Nat → BitVec 8, ∃ x_181 : BitVec 32, ∃ x_182 : Nat, lethelaw17_start (clampF k) (pbR k) (clampF k) (pbR k) m3 (0#32) m4 (x_176, x_177, x_178, x_179, x_180, x_181, x_182) ∧
          if ((eqB 32 x_176 (fun _ => 0#8)) && ((eqB 16 x_177 (fun _ => 0#8)) && ((eqB 64 x_178 (fun _ => 0#8)) && (((eqB 32 x_179 (fun _ => 0#8)) && ((eqB 32 x_180 (fun _ => 0#8)) && ((decide (x_181 = 0#32)) && true))) && ((decide ((x_182 : Nat) = 170)) && true))))) = true then (
            ∃ x_186 : Nat → BitVec 8, ∃ x_187 : Nat → BitVec 8, ∃ x_188 : Nat → BitVec 8, ∃ x_189 : Nat → BitVec 8, ∃ x_190 : Nat → BitVec 8, ∃ x_191 : BitVec 32, ∃ x_192 : Nat, lethelaw17_meet (clampF k) (pbR k) (clampF k) (pbR k) m1 m2 (0#32) (x_186, x_187, x_188, x_189, x_190, x_191, x_192) ∧
            true = ((eqB 32 x_186 (fun _ => 0#8)) && ((eqB 16 x_187 (fun _ => 0#8)) && ((eqB 64 x_188 (fun _ => 0#8)) && (((eqB 32 x_189 (fun _ => 0#8)) && ((eqB 32 x_190 (fun _ => 0#8)) && ((decide (x_191 = 0#32)) && true))) && ((decide ((x_192 : Nat) = 170)) && true)))))
          ) else (
            true = false
          )
        ) else (
          true = false
        )
      ) else (
        true = false
      ) := by
    rintro m1 m2 m3 m4 h rfl rfl
    refine ⟨_, _, _, _, _, _, _, start_bad (clampF k) (pbR k) (clampF k) (pbR k) m3 m4 1#32 h1 (h.elim (fun h => .inr (.inl h)) .inl), ?_⟩
    rw [if_pos (by simp only [eqA]; decide)]
    refine ⟨_, _, _, _, _, _, _, meet_bad (clampF k) (pbR k) (clampF k) (pbR k) m3 m4 1#32 h1 (h.elim .inl fun h => .inr (.inl h)), ?_⟩
    rw [if_pos (by simp only [eqA]; decide)]
    refine ⟨_, _, _, _, _, _, _, start_none _ _ _ _ _ _, ?_⟩
    rw [if_pos (by simp only [eqA]; decide)]
    refine ⟨_, _, _, _, _, _, _, meet_none _ _ _ _ _ _, ?_⟩
    simp only [eqA]; decide
  by_cases hw : wh % 2 = 0
  · exact ⟨bad, pbR k, bad, pbR k, by rw [if_pos hw]; exact ⟨rfl, rfl, rfl, rfl⟩, fin bad (pbR k) bad (pbR k) (.inl hb) rfl rfl⟩
  · exact ⟨pbR k, bad, pbR k, bad, by rw [if_neg hw]; exact ⟨rfl, rfl, rfl, rfl⟩, fin (pbR k) bad (pbR k) bad (.inr hb) rfl rfl⟩
end Go.Proofs.YtjclppnbbpnfnaaDoor
