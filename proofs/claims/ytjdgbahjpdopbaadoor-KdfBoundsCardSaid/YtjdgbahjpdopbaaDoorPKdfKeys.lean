/-
  PLAIN LAWS OF KdfKeys AND KdfBounds (own work): the keys are Derive's bytes, cut; which numbers are taken.
-/
import Derived.Test.YtjdgbahjpdopbaaDoorPAwake
import Derived.Test.YtjdgbahjpdopbaaDoorRKdfKeys
namespace Go.Proofs.YtjdgbahjpdopbaaDoor
set_option linter.unusedSimpArgs false
set_option linter.unusedVariables false
set_option linter.unusedSectionVars false
open Go Go.LW

/-- the keys: 32 bytes of Derive's each -/
def keysL (B : List Byte) : Nat → List (Nat → Byte)
  | 0 => []
  | i + 1 => keysL B i ++ [lit (seg B (32 * i) B.length)]
theorem keysL_length (B : List Byte) : ∀ n, (keysL B n).length = n
  | 0 => rfl
  | n + 1 => by show (keysL B n ++ [_]).length = _; rw [List.length_append, keysL_length B n]; rfl
theorem keysL_get (B : List Byte) (dflt : Nat → Byte) : ∀ n i, i < n → (keysL B n).getD i dflt = lit (seg B (32 * i) B.length)
  | n + 1, i, h => by
    have hl := keysL_length B n
    show (keysL B n ++ [_]).getD i dflt = _
    rw [List.getD_eq_getElem?_getD]
    by_cases hi : i < n
    · rw [List.getElem?_append_left (by omega), ← List.getD_eq_getElem?_getD]
      exact keysL_get B dflt n i hi
    · obtain rfl : i = n := by omega
      rw [List.getElem?_append_right (by omega), hl, Nat.sub_self]; rfl
theorem keys_ok {salt key info : List Byte} {n : Nat} (hs : salt.length < 2305843009213693952) (hk : key.length < 1152921504606846976) (hi : info.length < 1000000) (hn : n ≤ 255) :
    kdf_Keys salt key info (n : Int) (keysL (expL (dl 32 (macL salt key)) info (32 * n)) n, 0) := by
  unfold kdf_Keys
  rw [if_neg (by omega), if_neg (by omega)]
  have hd := derive_ok (n := 32 * n) hs hk hi (by omega)
  have hL := expL_length (dl 32 (macL salt key)) info (32 * n)
  generalize expL (dl 32 (macL salt key)) info (32 * n) = B at hd hL ⊢
  refine ⟨B, 0, by simpa using hd, ?_⟩
  rw [if_neg (by decide)]
  refine ⟨keysL B n, ?_, rfl⟩
  refine Iter.count (fun i => (B, keysL B i, i)) n (fun i hi => ?_) ?_
  · unfold kdf_Keys_l0
    dsimp only
    have hl := keysL_length B i
    rw [if_pos (by omega)]
    refine ⟨by omega, by omega, ?_, rfl⟩
    rw [hl, List.length_singleton]; omega
  · unfold kdf_Keys_l0
    dsimp only
    rw [if_neg (by omega)]
theorem kdfKeys_true (salt key info : List Byte) (n : Int) : lethelaw03_KdfKeys salt key info n true := by
  have hS := short_le salt
  have hK := short_le key
  have hI := short_le info
  obtain ⟨N, hN, hr⟩ := rest_ok n (m := 12) (by omega) (by omega)
  refine ⟨_, short_ok salt, _, short_ok key, _, short_ok info, _, hr, ?_⟩
  generalize salt.take 400 = S at hS ⊢
  generalize key.take 400 = K at hK ⊢
  generalize info.take 400 = I at hI ⊢
  have hL := expL_length (dl 32 (macL S K)) I (32 * N)
  have hd := derive_ok (salt := S) (key := K) (info := I) (n := 32 * N) (by omega) (by omega) (by omega) (by omega)
  have hk := keys_ok (salt := S) (key := K) (info := I) (n := N) (by omega) (by omega) (by omega) (by omega)
  generalize expL (dl 32 (macL S K)) I (32 * N) = B at hd hL hk ⊢
  have hKl := keysL_length B N
  refine ⟨_, _, hk, by omega, B, 0, by simpa using hd, ?_⟩
  rw [if_neg (by decide), if_neg (by decide), if_neg (by omega)]
  refine ⟨by omega, ?_⟩
  rw [if_neg (by omega)]
  refine ⟨some (), ?_, fun _ => rfl⟩
  refine Iter.count (fun i => (keysL B N, B, i)) N (fun i hi => ?_) ?_
  · unfold lethelaw03_KdfKeys_l0
    dsimp only
    rw [if_pos (by omega)]
    refine ⟨by omega, by omega, by omega, by omega, by omega, _, rfl, ?_⟩
    rw [keysL_get B _ N i hi]
    have e : dl 32 (lit (seg B (32 * i) B.length)) = seg B (32 * i) (32 * i + 32) := by
      refine lext ?_ fun q hq => ?_
      · rw [dl_length, seg_length (by omega)]; omega
      · rw [dl_length] at hq
        rw [lit_dl _ hq, lit_seg (by omega) (by omega), lit_seg (by omega) (by omega)]
    rw [e, if_pos (by simp)]
    exact ⟨by omega, rfl⟩
  · unfold lethelaw03_KdfKeys_l0
    dsimp only
    rw [if_neg (by omega)]
end Go.Proofs.YtjdgbahjpdopbaaDoor
