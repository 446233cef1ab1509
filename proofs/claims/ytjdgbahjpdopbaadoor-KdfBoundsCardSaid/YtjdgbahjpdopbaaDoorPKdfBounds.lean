/-
  PLAIN LAW OF KdfBounds (own work): which numbers are taken; the last block of the longest.
-/
import Derived.Test.YtjdgbahjpdopbaaDoorPKdfKeys
import Derived.Test.YtjdgbahjpdopbaaDoorRKdfBounds
namespace Go.Proofs.YtjdgbahjpdopbaaDoor
set_option linter.unusedSimpArgs false
set_option linter.unusedVariables false
set_option linter.unusedSectionVars false
open Go Go.LW

theorem kdfBounds_true (prk : List Byte) (n : Int) : lethelaw03_KdfBounds prk n true := by
  have hP := short_le prk
  refine ⟨_, short_ok prk, ?_⟩
  generalize prk.take 400 = P at hP ⊢
  have hL := expL_length P [] 8160
  refine ⟨expL P [] 8160, 0, expand_ok (n := 8160) (by omega) (by decide) (by omega), ?_⟩
  rw [if_neg (by decide), if_neg (by omega)]
  refine ⟨by omega, _, mac_ok (by omega) (by simp) (by simp only [List.flatten_cons, List.flatten_nil, List.append_nil, List.length_append, List.length_cons, List.length_nil]; rw [seg_length (by omega)]; omega), by omega, _, rfl, ?_⟩
  have e : seg (expL P [] 8160) 8128 (expL P [] 8160).length = dl 32 (macL P [seg (expL P [] 8160) 8096 8128, [255#8]].flatten) := by
    have h8 : expL P [] 8160 = expO P [] 255 := by
      have h9 : seg (expO P [] 255) 0 (expO P [] 255).length = expO P [] 255 := seg_all _
      rw [expO_length] at h9
      exact h9
    rw [hL, h8]
    have e1 := expO_blk P [] 255 254 (by omega)
    have e2 := expO_blk P [] 255 253 (by omega)
    have e3 : expT P [] 255 = dl 32 (macL P (expT P [] 254 ++ ([] ++ [BitVec.ofNat 8 255]))) := rfl
    rw [show (8128 : Nat) = 32 * 254 from rfl, show (8160 : Nat) = 32 * 254 + 32 from rfl, e1, e3, show (8096 : Nat) = 32 * 253 from rfl, show (32 * 254 : Nat) = 32 * 253 + 32 from rfl, e2]
    simp
  rw [e, if_pos (by simp)]
  have hz : ∀ x : Nat → Byte, (dl 32 x).length < 2305843009213693952 := fun x => by rw [dl_length]; decide
  by_cases h0 : n < 0
  · refine ⟨[], 4, by unfold kdf_Expand; rw [if_pos h0], [], 4, by unfold kdf_Keys; rw [if_pos h0], [], 4, ⟨_, extract_ok (by omega) (by decide), [], 4, by unfold kdf_Expand; rw [if_pos h0], rfl⟩, ?_⟩
    rw [if_pos h0]
    simp
  by_cases h1 : 8160 < n
  · refine ⟨[], 30, by unfold kdf_Expand; rw [if_neg h0, if_pos h1], [], 30, by unfold kdf_Keys; rw [if_neg h0, if_pos (by omega)], [], 30, ⟨_, extract_ok (by omega) (by decide), [], 30, by unfold kdf_Expand; rw [if_neg h0, if_pos h1], rfl⟩, ?_⟩
    rw [if_neg h0, if_pos h1]
    simp
  obtain ⟨m, rfl⟩ := Int.eq_ofNat_of_zero_le (show 0 ≤ n by omega)
  have hx := expand_ok (prk := P) (info := []) (n := m) (by omega) (by decide) (by omega)
  have hd := derive_ok (salt := P) (key := []) (info := []) (n := m) (by omega) (by decide) (by decide) (by omega)
  have l1 := expL_length P [] m
  have l2 := expL_length (dl 32 (macL P [])) [] m
  by_cases h2 : 255 < (m : Int)
  · refine ⟨_, _, hx, [], 30, by unfold kdf_Keys; rw [if_neg h0, if_pos h2], _, _, hd, ?_⟩
    rw [if_neg h0, if_neg h1, if_pos h2, l1, l2]
    simp
  · have hk := keys_ok (salt := P) (key := []) (info := []) (n := m) (by omega) (by decide) (by decide) (by omega)
    refine ⟨_, _, hx, _, _, hk, _, _, hd, ?_⟩
    rw [if_neg h0, if_neg h1, if_neg h2, l1, l2, keysL_length]
    simp
end Go.Proofs.YtjdgbahjpdopbaaDoor
