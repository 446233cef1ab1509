/-
  PLAIN LAW, AES PART 2 (own work; its tables printed by g_paes2.py): the box, its opposite, the doubles, as the program fills them.
-/
import Derived.Test.YthjkmhdgenmnoaaPAes1
namespace Go.Proofs.Ythjkmhdgenmnoaa
set_option linter.unusedSimpArgs false
set_option linter.unusedVariables false
set_option linter.unusedSectionVars false
open Go Go.LW

def nth8 (l : List Nat) (i : Nat) : BitVec 8 := BitVec.ofNat 8 (l.getD i 0)
def powL : List Nat := [1, 3, 5, 15, 17, 51, 85, 255, 26, 46, 114, 150, 161, 248, 19, 53, 95, 225, 56, 72, 216, 115, 149, 164, 247, 2, 6, 10, 30, 34, 102, 170, 229, 52, 92, 228, 55, 89, 235, 38, 106, 190, 217, 112, 144, 171, 230, 49, 83, 245, 4, 12, 20, 60, 68, 204, 79, 209, 104, 184, 211, 110, 178, 205, 76, 212, 103, 169, 224, 59, 77, 215, 98, 166, 241, 8, 24, 40, 120, 136, 131, 158, 185, 208, 107, 189, 220, 127, 129, 152, 179, 206, 73, 219, 118, 154, 181, 196, 87, 249, 16, 48, 80, 240, 11, 29, 39, 105, 187, 214, 97, 163, 254, 25, 43, 125, 135, 146, 173, 236, 47, 113, 147, 174, 233, 32, 96, 160, 251, 22, 58, 78, 210, 109, 183, 194, 93, 231, 50, 86, 250, 21, 63, 65, 195, 94, 226, 61, 71, 201, 64, 192, 91, 237, 44, 116, 156, 191, 218, 117, 159, 186, 213, 100, 172, 239, 42, 126, 130, 157, 188, 223, 122, 142, 137, 128, 155, 182, 193, 88, 232, 35, 101, 175, 234, 37, 111, 177, 200, 67, 197, 84, 252, 31, 33, 99, 165, 244, 7, 9, 27, 45, 119, 153, 176, 203, 70, 202, 69, 207, 74, 222, 121, 139, 134, 145, 168, 227, 62, 66, 198, 81, 243, 14, 18, 54, 90, 238, 41, 123, 141, 140, 143, 138, 133, 148, 167, 242, 13, 23, 57, 75, 221, 124, 132, 151, 162, 253, 28, 36, 108, 180, 199, 82, 246, 1]
def opwL : List Nat := [1, 246, 82, 199, 180, 108, 36, 28, 253, 162, 151, 132, 124, 221, 75, 57, 23, 13, 242, 167, 148, 133, 138, 143, 140, 141, 123, 41, 238, 90, 54, 18, 14, 243, 81, 198, 66, 62, 227, 168, 145, 134, 139, 121, 222, 74, 207, 69, 202, 70, 203, 176, 153, 119, 45, 27, 9, 7, 244, 165, 99, 33, 31, 252, 84, 197, 67, 200, 177, 111, 37, 234, 175, 101, 35, 232, 88, 193, 182, 155, 128, 137, 142, 122, 223, 188, 157, 130, 126, 42, 239, 172, 100, 213, 186, 159, 117, 218, 191, 156, 116, 44, 237, 91, 192, 64, 201, 71, 61, 226, 94, 195, 65, 63, 21, 250, 86, 50, 231, 93, 194, 183, 109, 210, 78, 58, 22, 251, 160, 96, 32, 233, 174, 147, 113, 47, 236, 173, 146, 135, 125, 43, 25, 254, 163, 97, 214, 187, 105, 39, 29, 11, 240, 80, 48, 16, 249, 87, 196, 181, 154, 118, 219, 73, 206, 179, 152, 129, 127, 220, 189, 107, 208, 185, 158, 131, 136, 120, 40, 24, 8, 241, 166, 98, 215, 77, 59, 224, 169, 103, 212, 76, 205, 178, 110, 211, 184, 104, 209, 79, 204, 68, 60, 20, 12, 4, 245, 83, 49, 230, 171, 144, 112, 217, 190, 106, 38, 235, 89, 55, 228, 92, 52, 229, 170, 102, 34, 30, 10, 6, 2, 247, 164, 149, 115, 216, 72, 56, 225, 95, 53, 19, 248, 161, 150, 114, 46, 26, 255, 85, 51, 17, 15, 5, 3, 1]
def boxL : List Nat := [99, 124, 119, 123, 242, 107, 111, 197, 48, 1, 103, 43, 254, 215, 171, 118, 202, 130, 201, 125, 250, 89, 71, 240, 173, 212, 162, 175, 156, 164, 114, 192, 183, 253, 147, 38, 54, 63, 247, 204, 52, 165, 229, 241, 113, 216, 49, 21, 4, 199, 35, 195, 24, 150, 5, 154, 7, 18, 128, 226, 235, 39, 178, 117, 9, 131, 44, 26, 27, 110, 90, 160, 82, 59, 214, 179, 41, 227, 47, 132, 83, 209, 0, 237, 32, 252, 177, 91, 106, 203, 190, 57, 74, 76, 88, 207, 208, 239, 170, 251, 67, 77, 51, 133, 69, 249, 2, 127, 80, 60, 159, 168, 81, 163, 64, 143, 146, 157, 56, 245, 188, 182, 218, 33, 16, 255, 243, 210, 205, 12, 19, 236, 95, 151, 68, 23, 196, 167, 126, 61, 100, 93, 25, 115, 96, 129, 79, 220, 34, 42, 144, 136, 70, 238, 184, 20, 222, 94, 11, 219, 224, 50, 58, 10, 73, 6, 36, 92, 194, 211, 172, 98, 145, 149, 228, 121, 231, 200, 55, 109, 141, 213, 78, 169, 108, 86, 244, 234, 101, 122, 174, 8, 186, 120, 37, 46, 28, 166, 180, 198, 232, 221, 116, 31, 75, 189, 139, 138, 112, 62, 181, 102, 72, 3, 246, 14, 97, 53, 87, 185, 134, 193, 29, 158, 225, 248, 152, 17, 105, 217, 142, 148, 155, 30, 135, 233, 206, 85, 40, 223, 140, 161, 137, 13, 191, 230, 66, 104, 65, 153, 45, 15, 176, 84, 187, 22]
def ibxL : List Nat := [82, 9, 106, 213, 48, 54, 165, 56, 191, 64, 163, 158, 129, 243, 215, 251, 124, 227, 57, 130, 155, 47, 255, 135, 52, 142, 67, 68, 196, 222, 233, 203, 84, 123, 148, 50, 166, 194, 35, 61, 238, 76, 149, 11, 66, 250, 195, 78, 8, 46, 161, 102, 40, 217, 36, 178, 118, 91, 162, 73, 109, 139, 209, 37, 114, 248, 246, 100, 134, 104, 152, 22, 212, 164, 92, 204, 93, 101, 182, 146, 108, 112, 72, 80, 253, 237, 185, 218, 94, 21, 70, 87, 167, 141, 157, 132, 144, 216, 171, 0, 140, 188, 211, 10, 247, 228, 88, 5, 184, 179, 69, 6, 208, 44, 30, 143, 202, 63, 15, 2, 193, 175, 189, 3, 1, 19, 138, 107, 58, 145, 17, 65, 79, 103, 220, 234, 151, 242, 207, 206, 240, 180, 230, 115, 150, 172, 116, 34, 231, 173, 53, 133, 226, 249, 55, 232, 28, 117, 223, 110, 71, 241, 26, 113, 29, 41, 197, 137, 111, 183, 98, 14, 170, 24, 190, 27, 252, 86, 62, 75, 198, 210, 121, 32, 154, 219, 192, 254, 120, 205, 90, 244, 31, 221, 168, 51, 136, 7, 199, 49, 177, 18, 16, 89, 39, 128, 236, 95, 96, 81, 127, 169, 25, 181, 74, 13, 45, 229, 122, 159, 147, 201, 156, 239, 160, 224, 59, 77, 174, 42, 245, 176, 200, 235, 187, 60, 131, 83, 153, 97, 23, 43, 4, 126, 186, 119, 214, 38, 225, 105, 20, 99, 85, 33, 12, 125]
def logL : List Nat := [0, 0, 25, 1, 50, 2, 26, 198, 75, 199, 27, 104, 51, 238, 223, 3, 100, 4, 224, 14, 52, 141, 129, 239, 76, 113, 8, 200, 248, 105, 28, 193, 125, 194, 29, 181, 249, 185, 39, 106, 77, 228, 166, 114, 154, 201, 9, 120, 101, 47, 138, 5, 33, 15, 225, 36, 18, 240, 130, 69, 53, 147, 218, 142, 150, 143, 219, 189, 54, 208, 206, 148, 19, 92, 210, 241, 64, 70, 131, 56, 102, 221, 253, 48, 191, 6, 139, 98, 179, 37, 226, 152, 34, 136, 145, 16, 126, 110, 72, 195, 163, 182, 30, 66, 58, 107, 40, 84, 250, 133, 61, 186, 43, 121, 10, 21, 155, 159, 94, 202, 78, 212, 172, 229, 243, 115, 167, 87, 175, 88, 168, 80, 244, 234, 214, 116, 79, 174, 233, 213, 231, 230, 173, 232, 44, 215, 117, 122, 235, 22, 11, 245, 89, 203, 95, 176, 156, 169, 81, 160, 127, 12, 246, 111, 23, 196, 73, 236, 216, 67, 31, 45, 164, 118, 123, 183, 204, 187, 62, 90, 251, 96, 177, 134, 59, 82, 161, 108, 170, 85, 41, 157, 151, 178, 135, 144, 97, 190, 220, 252, 188, 149, 207, 205, 55, 63, 91, 209, 83, 57, 132, 60, 65, 162, 109, 71, 20, 42, 158, 93, 86, 242, 211, 171, 68, 17, 146, 217, 35, 32, 46, 137, 180, 124, 184, 38, 119, 153, 227, 165, 103, 74, 237, 222, 197, 49, 254, 24, 13, 99, 140, 128, 192, 247, 112, 7]
def invL : List Nat := [0, 1, 141, 246, 203, 82, 123, 209, 232, 79, 41, 192, 176, 225, 229, 199, 116, 180, 170, 75, 153, 43, 96, 95, 88, 63, 253, 204, 255, 64, 238, 178, 58, 110, 90, 241, 85, 77, 168, 201, 193, 10, 152, 21, 48, 68, 162, 194, 44, 69, 146, 108, 243, 57, 102, 66, 242, 53, 32, 111, 119, 187, 89, 25, 29, 254, 55, 103, 45, 49, 245, 105, 167, 100, 171, 19, 84, 37, 233, 9, 237, 92, 5, 202, 76, 36, 135, 191, 24, 62, 34, 240, 81, 236, 97, 23, 22, 94, 175, 211, 73, 166, 54, 67, 244, 71, 145, 223, 51, 147, 33, 59, 121, 183, 151, 133, 16, 181, 186, 60, 182, 112, 208, 6, 161, 250, 129, 130, 131, 126, 127, 128, 150, 115, 190, 86, 155, 158, 149, 217, 247, 2, 185, 164, 222, 106, 50, 109, 216, 138, 132, 114, 42, 20, 159, 136, 249, 220, 137, 154, 251, 124, 46, 195, 143, 184, 101, 72, 38, 200, 18, 74, 206, 231, 210, 98, 12, 224, 31, 239, 17, 117, 120, 113, 165, 142, 118, 61, 189, 188, 134, 87, 11, 40, 47, 163, 218, 212, 228, 15, 169, 39, 83, 4, 27, 252, 172, 230, 122, 7, 174, 99, 197, 219, 226, 234, 148, 139, 196, 213, 157, 248, 144, 107, 177, 13, 214, 235, 198, 14, 207, 173, 8, 78, 215, 227, 93, 80, 30, 179, 91, 35, 56, 52, 104, 70, 3, 140, 221, 156, 125, 160, 205, 26, 65, 28]
def sb (x : BitVec 8) : BitVec 8 := nth8 boxL x.toNat
def isb (x : BitVec 8) : BitVec 8 := nth8 ibxL x.toNat
def inv8 (x : BitVec 8) : BitVec 8 := nth8 invL x.toNat
def acc8 (v : BitVec 8) : Nat → BitVec 8
  | 0 => v
  | i + 1 => acc8 v i ^^^ ((v <<< (1 + i)) ||| (v >>> (8 - (1 + i))))
def aff (v : BitVec 8) : BitVec 8 := acc8 v 4 ^^^ 99#8
theorem fill1_ok (a v : BitVec 8) (box back two : Nat → BitVec 8) : aes_fill_1 a v box back two (upd box a.toNat (aff v), upd back (aff v).toNat a) := by
  refine ⟨acc8 v 4, ?_, rfl⟩
  refine Iter.count (fun i => (acc8 v i, 1 + i)) 4 (fun i hi => ?_) ?_
  · unfold aes_fill_1_l0
    simp only [show 1 + i ≤ 4 by omega, if_true]
    rfl
  · unfold aes_fill_1_l0
    simp only [show ¬ (1 + 4 ≤ 4) by omega, if_false]
def boxAt : Nat → Nat → BitVec 8
  | 0 => upd (fun _ => 0#8) (0#8).toNat (aff 0#8)
  | i + 1 => upd (boxAt i) (nth8 powL i).toNat (aff (nth8 opwL i))
def backAt : Nat → Nat → BitVec 8
  | 0 => upd (fun _ => 0#8) (aff 0#8).toNat 0#8
  | i + 1 => upd (backAt i) (aff (nth8 opwL i)).toNat (nth8 powL i)
def twoAt : Nat → Nat → BitVec 8
  | 0 => fun _ => 0#8
  | i + 1 => upd (twoAt i) i (mul8 (BitVec.ofNat 8 i) 2#8)
theorem pow_step : ∀ i, i < 255 → mul8 (nth8 powL i) 3#8 = nth8 powL (i + 1) := by decide +kernel
theorem opw_step : ∀ i, i < 255 → mul8 (nth8 opwL i) 246#8 = nth8 opwL (i + 1) := by decide +kernel
def boxF : Nat → BitVec 8 := boxAt 255
def backF : Nat → BitVec 8 := backAt 255
def twoF : Nat → BitVec 8 := twoAt 256
theorem fill_ok : aes_fill (boxF, backF, twoF) := by
  refine ⟨_, _, fill1_ok _ _ _ _ _, boxF, backF, ?_, twoF, ?_, rfl⟩
  · refine Iter.count (fun i => (nth8 powL i, nth8 opwL i, i, boxAt i, backAt i)) 255 (fun i hi => ?_) ?_
    · unfold aes_fill_l0
      simp only [hi, if_true]
      refine ⟨_, _, fill1_ok _ _ _ _ _, _, mul_ok _ _, _, mul_ok _ _, ?_⟩
      rw [pow_step i hi, opw_step i hi]
      rfl
    · unfold aes_fill_l0
      simp only [Nat.lt_irrefl, if_false]
      rfl
  · refine Iter.count (fun i => (i, twoAt i)) 256 (fun i hi => ?_) ?_
    · unfold aes_fill_l1
      simp only [hi, if_true]
      exact ⟨_, mul_ok _ _, rfl⟩
    · unfold aes_fill_l1
      simp only [Nat.lt_irrefl, if_false]
      rfl
theorem upd_all {α : Type} {T : Nat → α} {idx : Nat → Nat} {val : Nat → α} {f : Nat → Nat → α} {m : Nat} (hf : ∀ i, i < m → f (i + 1) = upd (f i) (idx i) (val i)) (hv : ∀ i, i < m → val i = T (idx i)) :
    ∀ i, i ≤ m → ∀ k, (f 0 k = T k ∨ ∃ j, j < i ∧ idx j = k) → f i k = T k := by
  intro i
  induction i with
  | zero =>
    intro _ k h
    rcases h with h | ⟨j, hj, _⟩
    · exact h
    · omega
  | succ i ih =>
    intro hi k h
    rw [hf i (by omega), upd_at]
    by_cases hk : k = idx i
    · rw [if_pos hk, hk]; exact hv i (by omega)
    · rw [if_neg hk]
      refine ih (by omega) k ?_
      rcases h with h | ⟨j, hj, hjk⟩
      · exact .inl h
      · refine .inr ⟨j, ?_, hjk⟩
        by_cases hji : j = i
        · subst hji; exact absurd hjk.symm hk
        · omega
theorem box_at (x : BitVec 8) : boxF x.toNat = sb x := by
  have h1 : ∀ i, i < 255 → aff (nth8 opwL i) = nth8 boxL (nth8 powL i).toNat := by decide +kernel
  have h2 : ∀ k, k < 256 → k = 0 ∨ (logL.getD k 0 < 255 ∧ (nth8 powL (logL.getD k 0)).toNat = k) := by decide +kernel
  refine upd_all (T := nth8 boxL) (f := boxAt) (idx := fun i => (nth8 powL i).toNat) (val := fun i => aff (nth8 opwL i)) (m := 255) (fun _ _ => rfl) h1 255 (Nat.le_refl _) _ ?_
  rcases h2 x.toNat x.isLt with h | ⟨h, h'⟩
  · rw [h]; exact .inl (by decide)
  · exact .inr ⟨_, h, h'⟩
theorem back_at (x : BitVec 8) : backF x.toNat = isb x := by
  have h1 : ∀ i, i < 255 → nth8 powL i = nth8 ibxL (aff (nth8 opwL i)).toNat := by decide +kernel
  have h2 : ∀ k, k < 256 → k = 99 ∨ (logL.getD (ibxL.getD k 0) 0 < 255 ∧ (aff (nth8 opwL (logL.getD (ibxL.getD k 0) 0))).toNat = k) := by decide +kernel
  refine upd_all (T := nth8 ibxL) (f := backAt) (idx := fun i => (aff (nth8 opwL i)).toNat) (val := fun i => nth8 powL i) (m := 255) (fun _ _ => rfl) h1 255 (Nat.le_refl _) _ ?_
  rcases h2 x.toNat x.isLt with h | ⟨h, h'⟩
  · rw [h]; exact .inl (by decide)
  · exact .inr ⟨_, h, h'⟩
theorem two_at (x : BitVec 8) : twoF x.toNat = xt x := by
  have h1 : ∀ x : BitVec 8, mul8 x 2#8 = xt x := by decide +kernel
  have h := upd_all (T := fun k => mul8 (BitVec.ofNat 8 k) 2#8) (f := twoAt) (idx := fun i => i) (val := fun i => mul8 (BitVec.ofNat 8 i) 2#8) (m := 256) (fun _ _ => rfl) (fun _ _ => rfl) 256 (Nat.le_refl _) x.toNat (.inr ⟨_, x.isLt, rfl⟩)
  rw [← h1]
  refine h.trans ?_
  rw [BitVec.ofNat_toNat, BitVec.setWidth_eq]
theorem sb_isb (x : BitVec 8) : sb (isb x) = x := by revert x; decide +kernel
theorem isb_sb (x : BitVec 8) : isb (sb x) = x := by revert x; decide +kernel
theorem sb_ne (x : BitVec 8) : sb x ≠ x := by revert x; decide +kernel
theorem mul_inv8 (x : BitVec 8) (h : x ≠ 0#8) : mul8 x (inv8 x) = 1#8 := by
  have : ∀ x : BitVec 8, x ≠ 0#8 → mul8 x (inv8 x) = 1#8 := by decide +kernel
  exact this x h
theorem box_ok (x : BitVec 8) : aes_Box x (sb x) := ⟨_, _, _, fill_ok, (box_at x).symm⟩
theorem unbox_ok (x : BitVec 8) : aes_Unbox x (isb x) := ⟨_, _, _, fill_ok, (back_at x).symm⟩
end Go.Proofs.Ythjkmhdgenmnoaa
