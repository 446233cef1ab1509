/-
  PLAIN (own work): the small functions of lethelaw05.
-/
import Derived.Test.YthjkmhdgenmnoaaDoorPSeal
import Derived.Test.YthjkmhdgenmnoaaDoorRLaw05
namespace Go.Proofs.YthjkmhdgenmnoaaDoor
set_option linter.unusedSimpArgs false
set_option linter.unusedVariables false
set_option linter.unusedSectionVars false
open Go Go.LW

theorem short_ok (b : List Byte) (n : Nat) : lethelaw05_short b (n : Int) (b.take n) := by
  unfold lethelaw05_short
  by_cases h : (n : Int) < ((b.length : Nat) : Int)
  · rw [if_pos h]
    refine ⟨by omega, ⟨by omega, by omega⟩, ?_⟩
    rw [Int.toNat_natCast, seg_zero]
  · rw [if_neg h]
    exact (List.take_of_length_le (by omega))
theorem short_le (b : List Byte) (n : Nat) : (b.take n).length ≤ n := by rw [List.length_take]; omega
theorem rest_ok (n : Int) {m : Nat} (hm : 0 < m) (hm2 : m < 1000000) : ∃ k : Nat, k < m ∧ lethelaw05_rest n (m : Int) (k : Int) := by
  have h1 := Int.tmod_lt_of_pos n (show (0 : Int) < m by omega)
  have h2 := Int.lt_tmod_of_pos n (show (0 : Int) < m by omega)
  have h3 : 0 ≤ (n.tmod m + m).tmod m := Int.tmod_nonneg _ (by omega)
  have h4 := Int.tmod_lt_of_pos (n.tmod m + m) (show (0 : Int) < m by omega)
  refine ⟨((n.tmod m + m).tmod m).toNat, by omega, by omega, by omega, by omega, by omega⟩
theorem sealF_at (key : Nat → Byte) (data text : List Byte) {q : Nat} (h : q < text.length) : lit (sealF key data text) q = lit text q ^^^ encF (k1F key) boxF twoF (ctr (ivF key) (q / 16)) (q % 16) := by
  unfold sealF
  rw [lit_app, if_pos (by rw [encS_length]; exact h)]
  exact strF_at _ _ _ _ _ h
theorem three_ok (key : Nat → Byte) : lethelaw05_three key (.inr (seg (skey key) 0 32, k2F key, ivF key, true)) := by
  have hl := skey_length key
  refine ⟨skey key, 0, ⟨skey key, 0, skey_ok key, rfl, rfl⟩, ?_⟩
  rw [if_neg (by omega), if_neg (by omega)]
  exact ⟨by omega, by omega, by omega, by omega, rfl⟩
theorem len8_eq {n : Nat} (h : n ≤ 65535) : len8L n = [0#8, 0#8, 0#8, 0#8, 0#8, BitVec.ofNat 8 (n / 65536), BitVec.ofNat 8 (n / 256), BitVec.ofNat 8 n] := by
  have e : ∀ i, len8 n i = BitVec.ofNat 8 (n / 2 ^ (56 - 8 * i)) := fun i => by
    unfold len8
    apply BitVec.eq_of_toNat_eq
    rw [BitVec.toNat_setWidth, BitVec.toNat_ushiftRight, BitVec.toNat_ofNat, BitVec.toNat_ofNat, Nat.shiftRight_eq_div_pow, Nat.mod_eq_of_lt (show n < 2 ^ 64 by omega)]
  show [len8 n 0, len8 n 1, len8 n 2, len8 n 3, len8 n 4, len8 n 5, len8 n 6, len8 n 7] = _
  rw [e, e, e, e, e, e, e, e]
  have z : ∀ d, 65536 ≤ d → n / d = 0 := fun d hd => Nat.div_eq_of_lt (by omega)
  rw [z (2 ^ (56 - 8 * 0)) (by decide), z (2 ^ (56 - 8 * 1)) (by decide), z (2 ^ (56 - 8 * 2)) (by decide), z (2 ^ (56 - 8 * 3)) (by decide), z (2 ^ (56 - 8 * 4)) (by decide)]
  simp
theorem tag_ok {k2 data c : List Byte} (hk : k2.length ≤ 1000000) (hd : data.length ≤ 65535) (hc : c.length ≤ 1000000) : lethelaw05_tag k2 data c (tagF k2 data c) := by
  have hl : (len8L data.length).length = 8 := by unfold len8L; rw [List.length_map, List.length_range]
  have hm := mac_ok (X := k2) (P := [data, c, len8L data.length]) (by omega) (by simp) (by simp only [List.flatten_cons, List.flatten_nil, List.append_nil, List.length_append]; omega)
  simp only [List.flatten_cons, List.flatten_nil, List.append_nil] at hm
  refine ⟨by omega, by omega, _, ?_, rfl⟩
  rw [← len8_eq hd]
  exact hm
end Go.Proofs.YthjkmhdgenmnoaaDoor
