/-
  PLAIN (own work): what chain's functions compute.
-/
import Derived.Test.YtjdgbahjpdopbaaDoorPKdf
import Derived.Test.YtjdgbahjpdopbaaDoorRChain
import Derived.Test.YtjdgbahjpdopbaaDoorRLaw13
namespace Go.Proofs.YtjdgbahjpdopbaaDoor
set_option linter.unusedSimpArgs false
set_option linter.unusedVariables false
set_option linter.unusedSectionVars false
open Go Go.LW

theorem eqB_id (m : Nat) (F : Nat → Byte) : eqB m F F = true := eqB_iff.2 fun _ _ => rfl
def nxC (k : Nat → Byte) : Nat → Byte := macL (dl 32 k) [2#8]
def msC (k : Nat → Byte) : Nat → Byte := macL (dl 32 k) [1#8]
theorem macC (k : Nat → Byte) (b : Byte) : kdf_Mac (dl 32 k) [[b]] (macL (dl 32 k) [b]) := by
  have := mac_ok (X := dl 32 k) (P := [[b]]) (by rw [dl_length]; decide) (by simp) (by simp)
  simpa using this
theorem step_ok (k : Nat → Byte) : chain_Step k (nxC k, msC k) :=
  ⟨_, macC k _, _, macC k _, _, macC k _, _, macC k _, _, macC k _, _, macC k _, _, macC k _, _, macC k _, _, macC k _, _, macC k _, _, macC k _, _, macC k _, rfl⟩
def aftC (k : Nat → Byte) : Nat → (Nat → Byte)
  | 0 => k
  | i + 1 => nxC (aftC k i)
def msgs (k : Nat → Byte) : Nat → List (Nat → Byte)
  | 0 => []
  | i + 1 => msgs k i ++ [msC (aftC k i)]
theorem msgs_length (k : Nat → Byte) : ∀ n, (msgs k n).length = n
  | 0 => rfl
  | n + 1 => by show (msgs k n ++ [_]).length = _; rw [List.length_append, msgs_length k n]; rfl
theorem aftC_add (k : Nat → Byte) (m : Nat) : ∀ n, aftC (aftC k m) n = aftC k (m + n)
  | 0 => rfl
  | n + 1 => by show nxC _ = nxC _; rw [aftC_add k m n]; rfl
theorem msgs_add (k : Nat → Byte) (m : Nat) : ∀ n, msgs k m ++ msgs (aftC k m) n = msgs k (m + n)
  | 0 => by show msgs k m ++ [] = _; rw [List.append_nil]; rfl
  | n + 1 => by
    show msgs k m ++ (msgs (aftC k m) n ++ [_]) = msgs k (m + n) ++ [_]
    rw [← List.append_assoc, msgs_add k m n, aftC_add]; rfl
theorem ahead_ok (k : Nat → Byte) {n : Nat} (hn : n ≤ 256) : chain_Ahead k (n : Int) (aftC k n, msgs k n, 0) := by
  unfold chain_Ahead
  rw [if_neg (by omega), if_neg (by omega)]
  refine ⟨msgs k n, aftC k n, ?_, rfl⟩
  refine Iter.count (fun i => (msgs k i, i, aftC k i)) n (fun i hi => ?_) ?_
  · unfold chain_Ahead_l0
    dsimp only
    have hl := msgs_length k i
    rw [if_pos (by omega)]
    refine ⟨_, _, step_ok _, ?_, rfl⟩
    rw [hl, List.length_singleton]; omega
  · unfold chain_Ahead_l0
    dsimp only
    rw [if_neg (by omega)]
theorem same_ok {a : List (Nat → Byte)} (h : a.length < 9223372036854775807) : lethelaw13_sameKeys a a true := by
  unfold lethelaw13_sameKeys
  rw [if_neg (by simp)]
  refine ⟨some (), ?_, fun _ => rfl⟩
  refine Iter.count (fun i => i) a.length (fun i hi => ?_) ?_
  · unfold lethelaw13_sameKeys_l0
    rw [if_pos hi, if_pos (eqB_id _ _)]
    exact ⟨hi, hi, by omega, rfl⟩
  · unfold lethelaw13_sameKeys_l0
    rw [if_neg (by omega)]
/-- the number that a law's fold names -/
theorem fold_ok {n : Int} (h : -9223372036854775808 ≤ n ∧ n ≤ 9223372036854775807) {m : Nat} (hm : 0 < m) : ∃ k : Nat, k < m ∧ (max n (w64 (-(w64 (n + 1))))).tmod (m : Int) = (k : Int) := by
  have h0 := fold_w64 h
  obtain ⟨z, hz⟩ := Int.eq_ofNat_of_zero_le h0
  rw [hz]
  refine ⟨z % m, Nat.mod_lt _ hm, ?_⟩
  rw [Int.tmod_eq_emod_of_nonneg (Int.natCast_nonneg z)]; rfl
theorem lit_dl_self {m : Nat} {f : Nat → Byte} {q : Nat} (h : q < m) : lit (dl m f) q = f q := lit_dl _ h
/-- the label -/
def rootL : List Byte := dl 10 (lit ([108#8, 101#8, 116#8, 104#8, 101#8, 32#8, 114#8, 111#8, 111#8, 116#8] : List Byte))
def rootB (r s : Nat → Byte) : List Byte := expL (dl 32 (macL (dl 32 r) (dl 32 s))) rootL 64
def rtC (r s : Nat → Byte) : Nat → Byte := spl (fun _ => 0#8) 0 32 (lit (rootB r s))
def chC (r s : Nat → Byte) : Nat → Byte := spl (fun _ => 0#8) 0 32 (lit (seg (rootB r s) 32 64))
theorem rootB_length (r s : Nat → Byte) : (rootB r s).length = 64 := expL_length _ _ _
theorem rootD (r s : Nat → Byte) : kdf_Derive (dl 32 r) (dl 32 s) rootL 64 (rootB r s, 0) :=
  derive_ok (n := 64) (by rw [dl_length]; decide) (by rw [dl_length]; decide) (by unfold rootL; rw [dl_length]; decide) (by decide)
theorem root_ok (r s : Nat → Byte) : chain_Root r s (rtC r s, chC r s) := by
  have hl := rootB_length r s
  refine ⟨_, _, rootD r s, by omega, ?_⟩
  rw [hl]; rfl
theorem root_parts (r s : Nat → Byte) : dl 32 (rtC r s) ++ dl 32 (chC r s) = rootB r s := by
  have hl := rootB_length r s
  refine lext ?_ fun q hq => ?_
  · rw [List.length_append, dl_length, dl_length, hl]
  · rw [List.length_append, dl_length, dl_length] at hq
    rw [lit_app, dl_length]
    by_cases h : q < 32
    · rw [if_pos h, lit_dl _ h]
      unfold rtC
      rw [spl_in _ _ _ _ _ (by omega)]; rfl
    · rw [if_neg h, lit_dl _ (by omega)]
      unfold chC
      rw [spl_in _ _ _ _ _ (by omega), lit_seg (by omega) (by omega)]
      congr 1; omega
end Go.Proofs.YtjdgbahjpdopbaaDoor
