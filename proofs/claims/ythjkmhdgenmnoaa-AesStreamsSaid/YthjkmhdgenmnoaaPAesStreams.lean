/-
  PLAIN LAW OF AesStreams (own work): a stream is the encrypted counters; the relation of the law's function holds with 'true'.
-/
import Derived.Test.YthjkmhdgenmnoaaPAes5
import Derived.Test.YthjkmhdgenmnoaaRAesStreams
namespace Go.Proofs.Ythjkmhdgenmnoaa
set_option linter.unusedSimpArgs false
set_option linter.unusedVariables false
set_option linter.unusedSectionVars false
open Go Go.LW

theorem eqB_16 {s t : F8} (h : E16 s t) : eqB 16 s t = true := eqB_iff.2 h
theorem ctr_next (first : F8) {i : Nat} (hi : i < 2 ^ 64) : E16 (ctr first i) (nextF first (BitVec.ofNat 64 i)) := num_inj (by
  rw [num_ctr, num_next, BitVec.toNat_ofNat, Nat.mod_eq_of_lt hi])
theorem seam (k box two first : F8) {a b : List Byte} (ha : a.length < 2 ^ 64) :
    strF k box two first (seg a 0 (16 * (a.length / 16)) ++ b) = seg (strF k box two first a) 0 (16 * (a.length / 16)) ++ strF k box two (nextF first (BitVec.ofNat 64 (a.length / 16))) b := by
  generalize hm : a.length / 16 = m
  have hm2 : 16 * m ≤ a.length := by omega
  have hsl : (seg a 0 (16 * m)).length = 16 * m := by rw [seg_length hm2]; omega
  have hsl2 : (seg (strF k box two first a) 0 (16 * m)).length = 16 * m := by rw [seg_length (by rw [strF_length]; exact hm2)]; omega
  refine list_ext (by rw [strF_length, List.length_append, List.length_append, hsl, hsl2, strF_length]) fun q hq => ?_
  rw [strF_length] at hq
  rw [strF_at _ _ _ _ _ hq, lit_app, lit_app, hsl, hsl2]
  rw [List.length_append, hsl] at hq
  by_cases h : q < 16 * m
  · rw [if_pos h, if_pos h, lit_seg hm2 (by omega), lit_seg (by rw [strF_length]; exact hm2) (by omega), Nat.zero_add, strF_at _ _ _ _ _ (by omega)]
  · rw [if_neg h, if_neg h, strF_at _ _ _ _ _ (by omega)]
    have e1 : (q - 16 * m) % 16 = q % 16 := by omega
    have hE : E16 (ctr first (q / 16)) (ctr (nextF first (BitVec.ofNat 64 m)) ((q - 16 * m) / 16)) := num_inj (by
      rw [num_ctr, num_ctr, num_next, BitVec.toNat_ofNat, Nat.mod_eq_of_lt (show m < 2 ^ 64 by omega)]
      generalize num first = v
      have : q / 16 = m + (q - 16 * m) / 16 := by omega
      rw [this]
      generalize (q - 16 * m) / 16 = y
      omega)
    rw [e1, encF_E hE _ (by omega)]
theorem aesStreams_true (key first : F8) (a b : List Byte) (n : BitVec 64) : lethelaw04_AesStreams key first a b n true := by
  refine .inr ⟨_, _, _, _, of_ok key, _, short_ok a 200, _, short_ok b 200, ?_⟩
  generalize keyF (dl 32 key) = k
  have hA : (a.take 200).length ≤ 200 := by rw [List.length_take]; omega
  have hB : (b.take 200).length ≤ 200 := by rw [List.length_take]; omega
  generalize a.take 200 = A at hA
  generalize b.take 200 = B at hB
  have hS : (strF k boxF twoF first A).length = A.length := strF_length _ _ _ _ _
  refine ⟨_, str_ok k boxF backF twoF first (by omega), ?_⟩
  rw [if_neg (by omega)]
  refine ⟨_, str_ok k boxF backF twoF first (by omega), _, Eq_ok _ _, ?_⟩
  rw [if_pos (by rw [strF_twice]; simp)]
  refine ⟨some (strF k boxF twoF first A), ?_, ?_⟩
  · refine Iter.count (fun i => (strF k boxF twoF first A, i)) A.length (fun i hi => ?_) ?_
    · unfold lethelaw04_AesStreams_l0
      dsimp only
      rw [if_pos hi]
      refine ⟨by omega, _, next_ok _ _, _, enc_ok k boxF backF twoF _, by omega, hi, ?_⟩
      rw [if_neg (fun h => h (by rw [strF_at _ _ _ _ _ hi, encF_E (ctr_next first (show i / 16 < 2 ^ 64 by omega)) _ (by omega)]))]
      exact ⟨by omega, rfl⟩
    · unfold lethelaw04_AesStreams_l0
      dsimp only
      rw [if_neg (by omega)]
  · intro s hs
    obtain rfl := Option.some.inj hs
    have h1 : (seg A 0 (16 * (A.length / 16))).length = 16 * (A.length / 16) := by rw [seg_length (by omega)]; omega
    have h2 : (seg (strF k boxF twoF first A) 0 (16 * (A.length / 16))).length = 16 * (A.length / 16) := by rw [seg_length (by omega)]; omega
    simp only [List.nil_append]
    refine ⟨by omega, by omega, ⟨by omega, by omega⟩, by omega, by omega, _, str_ok k boxF backF twoF first (by rw [List.length_append]; omega), by omega, ⟨by omega, by omega⟩, by omega, _, next_ok _ _, _, str_ok k boxF backF twoF _ (by omega), by rw [strF_length]; omega, _, Eq_ok _ _, ?_⟩
    rw [if_pos (by rw [seam k boxF twoF first (by omega)]; simp)]
    refine ⟨_, next_ok _ _, _, next_ok _ _, _, next_ok _ _, ?_⟩
    have e1 : (n / 2#64).toNat = n.toNat / 2 := by rw [BitVec.toNat_udiv]; rfl
    have e2 : (n - n / 2#64).toNat = n.toNat - n.toNat / 2 := by
      rw [BitVec.toNat_sub, e1]
      have := n.isLt
      omega
    rw [if_pos (eqB_16 (num_inj (by
      rw [num_next, num_next, num_next, e1, e2]
      generalize num first = v
      omega)))]
    refine ⟨_, next_ok _ _, ?_⟩
    have hz : num (fun _ => 0#8) = 0 := by decide +kernel
    have hf : num (lit [255#8, 255#8, 255#8, 255#8, 255#8, 255#8, 255#8, 255#8, 255#8, 255#8, 255#8, 255#8, 255#8, 255#8, 255#8, 255#8]) = 2 ^ 128 - 1 := by decide +kernel
    rw [if_pos (eqB_16 (num_inj (by rw [num_next, hf, hz]; decide +kernel)))]
    refine ⟨_, next_ok _ _, (eqB_16 (num_inj ?_)).symm⟩
    rw [num_next, show (0#64 : BitVec 64).toNat = 0 by decide, Nat.add_zero, Nat.mod_eq_of_lt (num_lt first)]
end Go.Proofs.Ythjkmhdgenmnoaa
