import Derived.Test.YthjkmhdgenmnoaaRAes
import Derived.Test.YthjkmhdgenmnoaaEc
import Derived.Test.YthjkmhdgenmnoaaRRef04
namespace Go.Proofs.Ythjkmhdgenmnoaa
set_option linter.unusedSimpArgs false
set_option linter.unusedVariables false
set_option linter.unusedSectionVars false
open Go Go.LW
def xt (a : BitVec 8) : BitVec 8 := if a &&& 128#8 ≠ 0#8 then (a <<< 1) ^^^ 27#8 else a <<< 1
def mulFrom : Nat → BitVec 8 → BitVec 8 → BitVec 8 → BitVec 8
 | 0, _, _, out => out
 | n + 1, a, b, out => mulFrom n (xt a) (b >>> 1) (if b &&& 1#8 = 1#8 then out ^^^ a else out)
def mul8 (a b : BitVec 8) : BitVec 8 := mulFrom 8 a b 0#8
theorem mulFrom_zero : ∀ (n : Nat) (a out : BitVec 8), mulFrom n a 0#8 out = out
 | 0, _, _ => rfl
 | n + 1, a, out => by
   unfold mulFrom
   rw [if_neg (by decide), show (0#8 >>> 1 : BitVec 8) = 0#8 by decide]
   exact mulFrom_zero n _ _
theorem mul_iter : ∀ (n : Nat) (a b out : BitVec 8), b.toNat < 2 ^ n → Iter aes_Mul_l0 (a, b, out) (mulFrom n a b out) := by
 intro n
 induction n with
 | zero =>
   intro a b out hb
   obtain rfl : b = 0#8 := by
     apply BitVec.eq_of_toNat_eq; simp at hb ⊢; exact hb
   refine .done ?_
   simp [aes_Mul_l0, mulFrom]
 | succ n ih =>
   intro a b out hb
   by_cases h0 : b = 0#8
   · subst h0
     rw [mulFrom_zero]
     refine .done ?_
     simp [aes_Mul_l0]
   · refine .more (s' := (xt a, b >>> 1, if b &&& 1#8 = 1#8 then out ^^^ a else out)) ?_ ?_
     · unfold aes_Mul_l0 xt
       simp only [ne_eq, h0, not_false_eq_true, if_true]
       refine ⟨if b &&& 1#8 = 1#8 then out ^^^ a else out, ?_, ?_⟩
       · split <;> simp_all
       · split <;> simp_all
     · unfold mulFrom
       refine ih _ _ _ ?_
       rw [BitVec.toNat_ushiftRight, Nat.shiftRight_eq_div_pow]
       have : (2 : Nat) ^ (n + 1) = 2 ^ n * 2 := Nat.pow_succ ..
       omega
theorem mul_ok (a b : BitVec 8) : aes_Mul a b (mul8 a b) := ⟨_, mul_iter 8 a b 0#8 b.isLt, rfl⟩
def Add8 (F : BitVec 8 → BitVec 8) : Prop := ∀ x y, F (x ^^^ y) = F x ^^^ F y
theorem xlc {n : Nat} (a b c : BitVec n) : a ^^^ (b ^^^ c) = b ^^^ (a ^^^ c) := by rw [← BitVec.xor_assoc, BitVec.xor_comm a b, BitVec.xor_assoc]
theorem xsc {n : Nat} (a b : BitVec n) : a ^^^ (a ^^^ b) = b := by rw [← BitVec.xor_assoc, BitVec.xor_self, BitVec.zero_xor]
theorem Add8.zero {F : BitVec 8 → BitVec 8} (h : Add8 F) : F 0#8 = 0#8 := by
 have := h 0#8 0#8
 rw [show (0#8 ^^^ 0#8 : BitVec 8) = 0#8 by decide] at this
 have h2 : F 0#8 ^^^ F 0#8 = 0#8 := BitVec.xor_self
 rw [h2] at this; exact this
def bit8 (x : BitVec 8) (i : Nat) : BitVec 8 := if x.getLsbD i then 1#8 <<< i else 0#8
theorem bits8 : ∀ x : BitVec 8, x = bit8 x 0 ^^^ bit8 x 1 ^^^ bit8 x 2 ^^^ bit8 x 3 ^^^ bit8 x 4 ^^^ bit8 x 5 ^^^ bit8 x 6 ^^^ bit8 x 7 := by decide +kernel
theorem ext8 {F G : BitVec 8 → BitVec 8} (hF : Add8 F) (hG : Add8 G) (h : ∀ i, i < 8 → F (1#8 <<< i) = G (1#8 <<< i)) (x : BitVec 8) : F x = G x := by
 have hb : ∀ i, i < 8 → F (bit8 x i) = G (bit8 x i) := fun i hi => by
   unfold bit8; split
   · exact h i hi
   · rw [hF.zero, hG.zero]
 rw [bits8 x]
 simp only [hF _ _, hG _ _, hb 0 (by omega), hb 1 (by omega), hb 2 (by omega), hb 3 (by omega), hb 4 (by omega), hb 5 (by omega), hb 6 (by omega), hb 7 (by omega)]
theorem xt_add : Add8 xt := by
 intro x y
 have h1 : ∀ a : BitVec 8, xt a = (a <<< 1) ^^^ (if a.getLsbD 7 then 27#8 else 0#8) := by decide +kernel
 rw [h1, h1, h1, BitVec.shiftLeft_xor_distrib, BitVec.getLsbD_xor]
 generalize x <<< 1 = u
 generalize y <<< 1 = v
 cases x.getLsbD 7 <;> cases y.getLsbD 7 <;> simp [BitVec.xor_assoc, BitVec.xor_comm, xlc, xsc]
theorem mulFrom_out : ∀ (n : Nat) (a b out : BitVec 8), mulFrom n a b out = out ^^^ mulFrom n a b 0#8
 | 0, a, b, out => by simp [mulFrom]
 | n + 1, a, b, out => by
   unfold mulFrom
   rw [mulFrom_out n _ _ (if b &&& 1#8 = 1#8 then out ^^^ a else out), mulFrom_out n _ _ (if b &&& 1#8 = 1#8 then 0#8 ^^^ a else 0#8)]
   split <;> simp [BitVec.xor_assoc]
theorem mulFrom_addL : ∀ (n : Nat) (a a' b : BitVec 8), mulFrom n (a ^^^ a') b 0#8 = mulFrom n a b 0#8 ^^^ mulFrom n a' b 0#8
 | 0, _, _, _ => by simp [mulFrom]
 | n + 1, a, a', b => by
   unfold mulFrom
   rw [mulFrom_out n _ _ (if b &&& 1#8 = 1#8 then 0#8 ^^^ (a ^^^ a') else 0#8), mulFrom_out n _ _ (if b &&& 1#8 = 1#8 then 0#8 ^^^ a else 0#8), mulFrom_out n _ _ (if b &&& 1#8 = 1#8 then 0#8 ^^^ a' else 0#8), xt_add, mulFrom_addL n]
   split <;> simp [BitVec.xor_assoc, xlc, xsc, BitVec.xor_comm]
theorem mulFrom_addR : ∀ (n : Nat) (a b b' : BitVec 8), mulFrom n a (b ^^^ b') 0#8 = mulFrom n a b 0#8 ^^^ mulFrom n a b' 0#8
 | 0, _, _, _ => by simp [mulFrom]
 | n + 1, a, b, b' => by
   have h1 : ∀ b : BitVec 8, (b &&& 1#8 = 1#8) = (b.getLsbD 0 = true) := fun b => by
     rw [propext_iff]; revert b; decide +kernel
   unfold mulFrom
   rw [mulFrom_out n _ _ (if (b ^^^ b') &&& 1#8 = 1#8 then 0#8 ^^^ a else 0#8), mulFrom_out n _ _ (if b &&& 1#8 = 1#8 then 0#8 ^^^ a else 0#8), mulFrom_out n _ _ (if b' &&& 1#8 = 1#8 then 0#8 ^^^ a else 0#8), BitVec.ushiftRight_xor_distrib, mulFrom_addR n]
   simp only [h1, BitVec.getLsbD_xor]
   generalize mulFrom n (xt a) (b >>> 1) 0#8 = u
   generalize mulFrom n (xt a) (b' >>> 1) 0#8 = v
   cases b.getLsbD 0 <;> cases b'.getLsbD 0 <;> simp [BitVec.xor_assoc, xlc, xsc, BitVec.xor_comm]
theorem mul_addL (b : BitVec 8) : Add8 fun a => mul8 a b := fun x y => mulFrom_addL 8 x y b
theorem mul_addR (a : BitVec 8) : Add8 fun b => mul8 a b := fun x y => mulFrom_addR 8 a x y
theorem Add8.comp {F G : BitVec 8 → BitVec 8} (hF : Add8 F) (hG : Add8 G) : Add8 fun x => F (G x) := fun x y => by
 show F (G (x ^^^ y)) = _
 rw [hG, hF]
theorem mul_comm8 (a b : BitVec 8) : mul8 a b = mul8 b a := by
 refine ext8 (F := fun a => mul8 a b) (G := fun a => mul8 b a) (mul_addL b) (mul_addR b) (fun i hi => ?_) a
 refine ext8 (F := fun b => mul8 (1#8 <<< i) b) (G := fun b => mul8 b (1#8 <<< i)) (mul_addR _) (mul_addL _) (fun j hj => ?_) b
 have : ∀ i, i < 8 → ∀ j, j < 8 → mul8 (1#8 <<< i) (1#8 <<< j) = mul8 (1#8 <<< j) (1#8 <<< i) := by decide +kernel
 exact this i hi j hj
theorem mul_assoc8 (a b c : BitVec 8) : mul8 a (mul8 b c) = mul8 (mul8 a b) c := by
 refine ext8 (F := fun a => mul8 a (mul8 b c)) (G := fun a => mul8 (mul8 a b) c) (mul_addL _) (Add8.comp (F := fun a => mul8 a c) (G := fun a => mul8 a b) (mul_addL c) (mul_addL b)) (fun i hi => ?_) a
 refine ext8 (F := fun b => mul8 (1#8 <<< i) (mul8 b c)) (G := fun b => mul8 (mul8 (1#8 <<< i) b) c) (Add8.comp (F := fun x => mul8 (1#8 <<< i) x) (G := fun b => mul8 b c) (mul_addR _) (mul_addL c)) (Add8.comp (F := fun a => mul8 a c) (G := fun b => mul8 (1#8 <<< i) b) (mul_addL c) (mul_addR _)) (fun j hj => ?_) b
 refine ext8 (F := fun c => mul8 (1#8 <<< i) (mul8 (1#8 <<< j) c)) (G := fun c => mul8 (mul8 (1#8 <<< i) (1#8 <<< j)) c) (Add8.comp (F := fun x => mul8 (1#8 <<< i) x) (G := fun c => mul8 (1#8 <<< j) c) (mul_addR _) (mul_addR _)) (mul_addR _) (fun k hk => ?_) c
 have : ∀ i, i < 8 → ∀ j, j < 8 → ∀ k, k < 8 → mul8 (1#8 <<< i) (mul8 (1#8 <<< j) (1#8 <<< k)) = mul8 (mul8 (1#8 <<< i) (1#8 <<< j)) (1#8 <<< k) := by decide +kernel
 exact this i hi j hj k hk
theorem mul_one8 (a : BitVec 8) : mul8 a 1#8 = a := by revert a; decide +kernel
theorem mul_zero8 (a : BitVec 8) : mul8 0#8 a = 0#8 := (mul_addL a).zero
end Go.Proofs.Ythjkmhdgenmnoaa
namespace Go.Proofs.Ythjkmhdgenmnoaa
set_option linter.unusedSimpArgs false
set_option linter.unusedVariables false
set_option linter.unusedSectionVars false
open Go Go.LW
def nth8 (l : List Nat) (i : Nat) : BitVec 8 := BitVec.ofNat 8 (l.getD i 0)
def powL : List Nat := [1, 3, 5, 15, 17, 51, 85, 255, 26, 46, 114, 150, 161, 248, 19, 53, 95, 225, 56, 72, 216, 115, 149, 164, 247, 2, 6, 10, 30, 34, 102, 170, 229, 52, 92, 228, 55, 89, 235, 38, 106, 190, 217, 112, 144, 171, 230, 49, 83, 245, 4, 12, 20, 60, 68, 204, 79, 209, 104, 184, 211, 110, 178, 205, 76, 212, 103, 169, 224, 59, 77, 215, 98, 166, 241, 8, 24, 40, 120, 136, 131, 158, 185, 208, 107, 189, 220, 127, 129, 152, 179, 206, 73, 219, 118, 154, 181, 196, 87, 249, 16, 48, 80, 240, 11, 29, 39, 105, 187, 214, 97, 163, 254, 25, 43, 125, 135, 146, 173, 236, 47, 113, 147, 174, 233, 32, 96, 160, 251, 22, 58, 78, 210, 109, 183, 194, 93, 231, 50, 86, 250, 21, 63, 65, 195, 94, 226, 61, 71, 201, 64, 192, 91, 237, 44, 116, 156, 191, 218, 117, 159, 186, 213, 100, 172, 239, 42, 126, 130, 157, 188, 223, 122, 142, 137, 128, 155, 182, 193, 88, 232, 35, 101, 175, 234, 37, 111, 177, 200, 67, 197, 84, 252, 31, 33, 99, 165, 244, 7, 9, 27, 45, 119, 153, 176, 203, 70, 202, 69, 207, 74, 222, 121, 139, 134, 145, 168, 227, 62, 66, 198, 81, 243, 14, 18, 54, 90, 238, 41, 123, 141, 140, 143, 138, 133, 148, 167, 242, 13, 23, 57, 75, 221, 124, 132, 151, 162, 253, 28, 36, 108, 180, 199, 82, 246, 1]
def opwL : List Nat := [1, 246, 82, 199, 180, 108, 36, 28, 253, 162, 151, 132, 124, 221, 75, 57, 23, 13, 242, 167, 148, 133, 138, 143, 140, 141, 123, 41, 238, 90, 54, 18, 14, 243, 81, 198, 66, 62, 227, 168, 145, 134, 139, 121, 222, 74, 207, 69, 202, 70, 203, 176, 153, 119, 45, 27, 9, 7, 244, 165, 99, 33, 31, 252, 84, 197, 67, 200, 177, 111, 37, 234, 175, 101, 35, 232, 88, 193, 182, 155, 128, 137, 142, 122, 223, 188, 157, 130, 126, 42, 239, 172, 100, 213, 186, 159, 117, 218, 191, 156, 116, 44, 237, 91, 192, 64, 201, 71, 61, 226, 94, 195, 65, 63, 21, 250, 86, 50, 231, 93, 194, 183, 109, 210, 78, 58, 22, 251, 160, 96, 32, 233, 174, 147, 113, 47, 236, 173, 146, 135, 125, 43, 25, 254, 163, 97, 214, 187, 105, 39, 29, 11, 240, 80, 48, 16, 249, 87, 196, 181, 154, 118, 219, 73, 206, 179, 152, 129, 127, 220, 189, 107, 208, 185, 158, 131, 136, 120, 40, 24, 8, 241, 166, 98, 215, 77, 59, 224, 169, 103, 212, 76, 205, 178, 110, 211, 184, 104, 209, 79, 204, 68, 60, 20, 12, 4, 245, 83, 49, 230, 171, 144, 112, 217, 190, 106, 38, 235, 89, 55, 228, 92, 52, 229, 170, 102, 34, 30, 10, 6, 2, 247, 164, 149, 115, 216, 72, 56, 225, 95, 53, 19, 248, 161, 150, 114, 46, 26, 255, 85, 51, 17, 15, 5, 3, 1]
def boxL : List Nat := [99, 124, 119, 123, 242, 107, 111, 197, 48, 1, 103, 43, 254, 215, 171, 118, 202, 130, 201, 125, 250, 89, 71, 240, 173, 212, 162, 175, 156, 164, 114, 192, 183, 253, 147, 38, 54, 63, 247, 204, 52, 165, 229, 241, 113, 216, 49, 21, 4, 199, 35, 195, 24, 150, 5, 154, 7, 18, 128, 226, 235, 39, 178, 117, 9, 131, 44, 26, 27, 110, 90, 160, 82, 59, 214, 179, 41, 227, 47, 132, 83, 209, 0, 237, 32, 252, 177, 91, 106, 203, 190, 57, 74, 76, 88, 207, 208, 239, 170, 251, 67, 77, 51, 133, 69, 249, 2, 127, 80, 60, 159, 168, 81, 163, 64, 143, 146, 157, 56, 245, 188, 182, 218, 33, 16, 255, 243, 210, 205, 12, 19, 236, 95, 151, 68, 23, 196, 167, 126, 61, 100, 93, 25, 115, 96, 129, 79, 220, 34, 42, 144, 136, 70, 238, 184, 20, 222, 94, 11, 219, 224, 50, 58, 10, 73, 6, 36, 92, 194, 211, 172, 98, 145, 149, 228, 121, 231, 200, 55, 109, 141, 213, 78, 169, 108, 86, 244, 234, 101, 122, 174, 8, 186, 120, 37, 46, 28, 166, 180, 198, 232, 221, 116, 31, 75, 189, 139, 138, 112, 62, 181, 102, 72, 3, 246, 14, 97, 53, 87, 185, 134, 193, 29, 158, 225, 248, 152, 17, 105, 217, 142, 148, 155, 30, 135, 233, 206, 85, 40, 223, 140, 161, 137, 13, 191, 230, 66, 104, 65, 153, 45, 15, 176, 84, 187, 22]
def ibxL : List Nat := [82, 9, 106, 213, 48, 54, 165, 56, 191, 64, 163, 158, 129, 243, 215, 251, 124, 227, 57, 130, 155, 47, 255, 135, 52, 142, 67, 68, 196, 222, 233, 203, 84, 123, 148, 50, 166, 194, 35, 61, 238, 76, 149, 11, 66, 250, 195, 78, 8, 46, 161, 102, 40, 217, 36, 178, 118, 91, 162, 73, 109, 139, 209, 37, 114, 248, 246, 100, 134, 104, 152, 22, 212, 164, 92, 204, 93, 101, 182, 146, 108, 112, 72, 80, 253, 237, 185, 218, 94, 21, 70, 87, 167, 141, 157, 132, 144, 216, 171, 0, 140, 188, 211, 10, 247, 228, 88, 5, 184, 179, 69, 6, 208, 44, 30, 143, 202, 63, 15, 2, 193, 175, 189, 3, 1, 19, 138, 107, 58, 145, 17, 65, 79, 103, 220, 234, 151, 242, 207, 206, 240, 180, 230, 115, 150, 172, 116, 34, 231, 173, 53, 133, 226, 249, 55, 232, 28, 117, 223, 110, 71, 241, 26, 113, 29, 41, 197, 137, 111, 183, 98, 14, 170, 24, 190, 27, 252, 86, 62, 75, 198, 210, 121, 32, 154, 219, 192, 254, 120, 205, 90, 244, 31, 221, 168, 51, 136, 7, 199, 49, 177, 18, 16, 89, 39, 128, 236, 95, 96, 81, 127, 169, 25, 181, 74, 13, 45, 229, 122, 159, 147, 201, 156, 239, 160, 224, 59, 77, 174, 42, 245, 176, 200, 235, 187, 60, 131, 83, 153, 97, 23, 43, 4, 126, 186, 119, 214, 38, 225, 105, 20, 99, 85, 33, 12, 125]
def logL : List Nat := [0, 0, 25, 1, 50, 2, 26, 198, 75, 199, 27, 104, 51, 238, 223, 3, 100, 4, 224, 14, 52, 141, 129, 239, 76, 113, 8, 200, 248, 105, 28, 193, 125, 194, 29, 181, 249, 185, 39, 106, 77, 228, 166, 114, 154, 201, 9, 120, 101, 47, 138, 5, 33, 15, 225, 36, 18, 240, 130, 69, 53, 147, 218, 142, 150, 143, 219, 189, 54, 208, 206, 148, 19, 92, 210, 241, 64, 70, 131, 56, 102, 221, 253, 48, 191, 6, 139, 98, 179, 37, 226, 152, 34, 136, 145, 16, 126, 110, 72, 195, 163, 182, 30, 66, 58, 107, 40, 84, 250, 133, 61, 186, 43, 121, 10, 21, 155, 159, 94, 202, 78, 212, 172, 229, 243, 115, 167, 87, 175, 88, 168, 80, 244, 234, 214, 116, 79, 174, 233, 213, 231, 230, 173, 232, 44, 215, 117, 122, 235, 22, 11, 245, 89, 203, 95, 176, 156, 169, 81, 160, 127, 12, 246, 111, 23, 196, 73, 236, 216, 67, 31, 45, 164, 118, 123, 183, 204, 187, 62, 90, 251, 96, 177, 134, 59, 82, 161, 108, 170, 85, 41, 157, 151, 178, 135, 144, 97, 190, 220, 252, 188, 149, 207, 205, 55, 63, 91, 209, 83, 57, 132, 60, 65, 162, 109, 71, 20, 42, 158, 93, 86, 242, 211, 171, 68, 17, 146, 217, 35, 32, 46, 137, 180, 124, 184, 38, 119, 153, 227, 165, 103, 74, 237, 222, 197, 49, 254, 24, 13, 99, 140, 128, 192, 247, 112, 7]
def invL : List Nat := [0, 1, 141, 246, 203, 82, 123, 209, 232, 79, 41, 192, 176, 225, 229, 199, 116, 180, 170, 75, 153, 43, 96, 95, 88, 63, 253, 204, 255, 64, 238, 178, 58, 110, 90, 241, 85, 77, 168, 201, 193, 10, 152, 21, 48, 68, 162, 194, 44, 69, 146, 108, 243, 57, 102, 66, 242, 53, 32, 111, 119, 187, 89, 25, 29, 254, 55, 103, 45, 49, 245, 105, 167, 100, 171, 19, 84, 37, 233, 9, 237, 92, 5, 202, 76, 36, 135, 191, 24, 62, 34, 240, 81, 236, 97, 23, 22, 94, 175, 211, 73, 166, 54, 67, 244, 71, 145, 223, 51, 147, 33, 59, 121, 183, 151, 133, 16, 181, 186, 60, 182, 112, 208, 6, 161, 250, 129, 130, 131, 126, 127, 128, 150, 115, 190, 86, 155, 158, 149, 217, 247, 2, 185, 164, 222, 106, 50, 109, 216, 138, 132, 114, 42, 20, 159, 136, 249, 220, 137, 154, 251, 124, 46, 195, 143, 184, 101, 72, 38, 200, 18, 74, 206, 231, 210, 98, 12, 224, 31, 239, 17, 117, 120, 113, 165, 142, 118, 61, 189, 188, 134, 87, 11, 40, 47, 163, 218, 212, 228, 15, 169, 39, 83, 4, 27, 252, 172, 230, 122, 7, 174, 99, 197, 219, 226, 234, 148, 139, 196, 213, 157, 248, 144, 107, 177, 13, 214, 235, 198, 14, 207, 173, 8, 78, 215, 227, 93, 80, 30, 179, 91, 35, 56, 52, 104, 70, 3, 140, 221, 156, 125, 160, 205, 26, 65, 28]
def sb (x : BitVec 8) : BitVec 8 := nth8 boxL x.toNat
def isb (x : BitVec 8) : BitVec 8 := nth8 ibxL x.toNat
def inv8 (x : BitVec 8) : BitVec 8 := nth8 invL x.toNat
def acc8 (v : BitVec 8) : Nat → BitVec 8
 | 0 => v
 | i + 1 => acc8 v i ^^^ ((v <<< (1 + i)) ||| (v >>> (8 - (1 + i))))
def aff (v : BitVec 8) : BitVec 8 := acc8 v 4 ^^^ 99#8
theorem fill1_ok (a v : BitVec 8) (box back two : Nat → BitVec 8) : aes_fill_1 a v box back two (upd box a.toNat (aff v), upd back (aff v).toNat a) := by
 refine ⟨acc8 v 4, ?_, rfl⟩
 refine Iter.count (fun i => (acc8 v i, 1 + i)) 4 (fun i hi => ?_) ?_
 · unfold aes_fill_1_l0
   simp only [show 1 + i ≤ 4 by omega, if_true]
   rfl
 · unfold aes_fill_1_l0
   simp only [show ¬ (1 + 4 ≤ 4) by omega, if_false]
def boxAt : Nat → Nat → BitVec 8
 | 0 => upd (fun _ => 0#8) (0#8).toNat (aff 0#8)
 | i + 1 => upd (boxAt i) (nth8 powL i).toNat (aff (nth8 opwL i))
def backAt : Nat → Nat → BitVec 8
 | 0 => upd (fun _ => 0#8) (aff 0#8).toNat 0#8
 | i + 1 => upd (backAt i) (aff (nth8 opwL i)).toNat (nth8 powL i)
def twoAt : Nat → Nat → BitVec 8
 | 0 => fun _ => 0#8
 | i + 1 => upd (twoAt i) i (mul8 (BitVec.ofNat 8 i) 2#8)
theorem pow_step : ∀ i, i < 255 → mul8 (nth8 powL i) 3#8 = nth8 powL (i + 1) := by decide +kernel
theorem opw_step : ∀ i, i < 255 → mul8 (nth8 opwL i) 246#8 = nth8 opwL (i + 1) := by decide +kernel
def boxF : Nat → BitVec 8 := boxAt 255
def backF : Nat → BitVec 8 := backAt 255
def twoF : Nat → BitVec 8 := twoAt 256
theorem fill_ok : aes_fill (boxF, backF, twoF) := by
 refine ⟨_, _, fill1_ok _ _ _ _ _, boxF, backF, ?_, twoF, ?_, rfl⟩
 · refine Iter.count (fun i => (nth8 powL i, nth8 opwL i, i, boxAt i, backAt i)) 255 (fun i hi => ?_) ?_
   · unfold aes_fill_l0
     simp only [hi, if_true]
     refine ⟨_, _, fill1_ok _ _ _ _ _, _, mul_ok _ _, _, mul_ok _ _, ?_⟩
     rw [pow_step i hi, opw_step i hi]
     rfl
   · unfold aes_fill_l0
     simp only [Nat.lt_irrefl, if_false]
     rfl
 · refine Iter.count (fun i => (i, twoAt i)) 256 (fun i hi => ?_) ?_
   · unfold aes_fill_l1
     simp only [hi, if_true]
     exact ⟨_, mul_ok _ _, rfl⟩
   · unfold aes_fill_l1
     simp only [Nat.lt_irrefl, if_false]
     rfl
theorem upd_all {α : Type} {T : Nat → α} {idx : Nat → Nat} {val : Nat → α} {f : Nat → Nat → α} {m : Nat} (hf : ∀ i, i < m → f (i + 1) = upd (f i) (idx i) (val i)) (hv : ∀ i, i < m → val i = T (idx i)) :
   ∀ i, i ≤ m → ∀ k, (f 0 k = T k ∨ ∃ j, j < i ∧ idx j = k) → f i k = T k := by
 intro i
 induction i with
 | zero =>
   intro _ k h
   rcases h with h | ⟨j, hj, _⟩
   · exact h
   · omega
 | succ i ih =>
   intro hi k h
   rw [hf i (by omega), upd_at]
   by_cases hk : k = idx i
   · rw [if_pos hk, hk]; exact hv i (by omega)
   · rw [if_neg hk]
     refine ih (by omega) k ?_
     rcases h with h | ⟨j, hj, hjk⟩
     · exact .inl h
     · refine .inr ⟨j, ?_, hjk⟩
       by_cases hji : j = i
       · subst hji; exact absurd hjk.symm hk
       · omega
theorem box_at (x : BitVec 8) : boxF x.toNat = sb x := by
 have h1 : ∀ i, i < 255 → aff (nth8 opwL i) = nth8 boxL (nth8 powL i).toNat := by decide +kernel
 have h2 : ∀ k, k < 256 → k = 0 ∨ (logL.getD k 0 < 255 ∧ (nth8 powL (logL.getD k 0)).toNat = k) := by decide +kernel
 refine upd_all (T := nth8 boxL) (f := boxAt) (idx := fun i => (nth8 powL i).toNat) (val := fun i => aff (nth8 opwL i)) (m := 255) (fun _ _ => rfl) h1 255 (Nat.le_refl _) _ ?_
 rcases h2 x.toNat x.isLt with h | ⟨h, h'⟩
 · rw [h]; exact .inl (by decide)
 · exact .inr ⟨_, h, h'⟩
theorem back_at (x : BitVec 8) : backF x.toNat = isb x := by
 have h1 : ∀ i, i < 255 → nth8 powL i = nth8 ibxL (aff (nth8 opwL i)).toNat := by decide +kernel
 have h2 : ∀ k, k < 256 → k = 99 ∨ (logL.getD (ibxL.getD k 0) 0 < 255 ∧ (aff (nth8 opwL (logL.getD (ibxL.getD k 0) 0))).toNat = k) := by decide +kernel
 refine upd_all (T := nth8 ibxL) (f := backAt) (idx := fun i => (aff (nth8 opwL i)).toNat) (val := fun i => nth8 powL i) (m := 255) (fun _ _ => rfl) h1 255 (Nat.le_refl _) _ ?_
 rcases h2 x.toNat x.isLt with h | ⟨h, h'⟩
 · rw [h]; exact .inl (by decide)
 · exact .inr ⟨_, h, h'⟩
theorem two_at (x : BitVec 8) : twoF x.toNat = xt x := by
 have h1 : ∀ x : BitVec 8, mul8 x 2#8 = xt x := by decide +kernel
 have h := upd_all (T := fun k => mul8 (BitVec.ofNat 8 k) 2#8) (f := twoAt) (idx := fun i => i) (val := fun i => mul8 (BitVec.ofNat 8 i) 2#8) (m := 256) (fun _ _ => rfl) (fun _ _ => rfl) 256 (Nat.le_refl _) x.toNat (.inr ⟨_, x.isLt, rfl⟩)
 rw [← h1]
 refine h.trans ?_
 rw [BitVec.ofNat_toNat, BitVec.setWidth_eq]
theorem sb_isb (x : BitVec 8) : sb (isb x) = x := by revert x; decide +kernel
theorem isb_sb (x : BitVec 8) : isb (sb x) = x := by revert x; decide +kernel
theorem mul_inv8 (x : BitVec 8) (h : x ≠ 0#8) : mul8 x (inv8 x) = 1#8 := by
 have : ∀ x : BitVec 8, x ≠ 0#8 → mul8 x (inv8 x) = 1#8 := by decide +kernel
 exact this x h
end Go.Proofs.Ythjkmhdgenmnoaa
namespace Go.Proofs.Ythjkmhdgenmnoaa
set_option linter.unusedSimpArgs false
set_option linter.unusedVariables false
set_option linter.unusedSectionVars false
open Go Go.LW
abbrev F8 := Nat → BitVec 8
def E16 (s s' : F8) : Prop := ∀ q, q < 16 → s q = s' q
theorem E16.rfl' {s : F8} : E16 s s := fun _ _ => rfl
theorem E16.symm {s t : F8} (h : E16 s t) : E16 t s := fun q hq => (h q hq).symm
theorem E16.trans {s t u : F8} (h : E16 s t) (h' : E16 t u) : E16 s u := fun q hq => (h q hq).trans (h' q hq)
def addAt (k : F8) (r : Nat) (s : F8) (n : Nat) : F8 := fun q => if q < n then s q ^^^ k (r * 16 + q) else s q
def addF (k : F8) (r : Nat) (s : F8) : F8 := addAt k r s 16
theorem add_ok (k a b c s : F8) (r : Nat) (hr : r < 15) : aes_Cipher_add k a b c s (r : Int) (addF k r s) := by
 refine ⟨⟨by omega, by omega⟩, addF k r s, ?_, rfl⟩
 refine Iter.count (fun i => (i, addAt k r s i)) 16 (fun i hi => ?_) ?_
 · unfold aes_Cipher_add_l0
   simp only [hi, if_true]
   congr 2
   funext q
   simp only [upd_at, addAt, Int.toNat_natCast]
   by_cases hq : q = i
   · subst hq; simp
   · rw [if_neg hq]
     by_cases h2 : q < i
     · rw [if_pos h2, if_pos (by omega)]
     · rw [if_neg h2, if_neg (by omega)]
 · unfold aes_Cipher_add_l0
   simp only [Nat.lt_irrefl, if_false]
   rfl
theorem addF_at (k : F8) (r : Nat) (s : F8) {q : Nat} (h : q < 16) : addF k r s q = s q ^^^ k (r * 16 + q) := if_pos h
theorem addF_E {k : F8} {r : Nat} {s t : F8} (h : E16 s t) : E16 (addF k r s) (addF k r t) := fun q hq => by rw [addF_at _ _ _ hq, addF_at _ _ _ hq, h q hq]
def colv (two : F8) (i : Nat) (w x y z : BitVec 8) : BitVec 8 :=
 match i with
 | 0 => (w ^^^ (((w ^^^ x) ^^^ y) ^^^ z)) ^^^ two (w ^^^ x).toNat
 | 1 => (x ^^^ (((w ^^^ x) ^^^ y) ^^^ z)) ^^^ two (x ^^^ y).toNat
 | 2 => (y ^^^ (((w ^^^ x) ^^^ y) ^^^ z)) ^^^ two (y ^^^ z).toNat
 | _ => (z ^^^ (((w ^^^ x) ^^^ y) ^^^ z)) ^^^ two (z ^^^ w).toNat
def mixAt (two s : F8) (n : Nat) : F8 := fun q => if q < 4 * n then colv two (q % 4) (s (4 * (q / 4))) (s (4 * (q / 4) + 1)) (s (4 * (q / 4) + 2)) (s (4 * (q / 4) + 3)) else s q
def mixF (two s : F8) : F8 := mixAt two s 4
theorem mix_ok (k a b two s : F8) : aes_Cipher_mix k a b two s (mixF two s) := by
 refine ⟨mixF two s, ?_, rfl⟩
 refine Iter.count (fun i => (4 * i, mixAt two s i)) 4 (fun i hi => ?_) ?_
 · unfold aes_Cipher_mix_l0
   simp only [show 4 * i < 16 by omega, if_true]
   refine ⟨by omega, by omega, by omega, by omega, by omega, by omega, ?_⟩
   have hs : ∀ j, mixAt two s i (4 * i + j) = s (4 * i + j) := fun j => if_neg (by omega)
   have hs0 : mixAt two s i (4 * i) = s (4 * i) := hs 0
   rw [hs0, hs 1, hs 2, hs 3]
   congr 2
   funext q
   simp only [upd_at]
   by_cases h3 : q = 4 * i + 3
   · subst h3
     rw [if_pos rfl]
     have e1 : (4 * i + 3) % 4 = 3 := by omega
     have e2 : (4 * i + 3) / 4 = i := by omega
     simp only [mixAt, e1, e2, show 4 * i + 3 < 4 * (i + 1) by omega, if_true, colv]
   · rw [if_neg h3]
     by_cases h2 : q = 4 * i + 2
     · subst h2
       rw [if_pos rfl]
       have e1 : (4 * i + 2) % 4 = 2 := by omega
       have e2 : (4 * i + 2) / 4 = i := by omega
       simp only [mixAt, e1, e2, show 4 * i + 2 < 4 * (i + 1) by omega, if_true, colv]
     · rw [if_neg h2]
       by_cases h1 : q = 4 * i + 1
       · subst h1
         rw [if_pos rfl]
         have e1 : (4 * i + 1) % 4 = 1 := by omega
         have e2 : (4 * i + 1) / 4 = i := by omega
         simp only [mixAt, e1, e2, show 4 * i + 1 < 4 * (i + 1) by omega, if_true, colv]
       · rw [if_neg h1]
         by_cases h0 : q = 4 * i
         · subst h0
           rw [if_pos rfl]
           have e1 : (4 * i) % 4 = 0 := by omega
           have e2 : (4 * i) / 4 = i := by omega
           simp only [mixAt, e1, e2, show 4 * i < 4 * (i + 1) by omega, if_true, colv]
         · rw [if_neg h0]
           unfold mixAt
           by_cases hq : q < 4 * i
           · rw [if_pos hq, if_pos (by omega)]
           · rw [if_neg hq, if_neg (by omega)]
 · unfold aes_Cipher_mix_l0
   simp only [show ¬ (4 * 4 < 16) by omega, if_false]
   rfl
theorem mixF_at (two s : F8) {c i : Nat} (hc : c < 4) (hi : i < 4) : mixF two s (4 * c + i) = colv two i (s (4 * c)) (s (4 * c + 1)) (s (4 * c + 2)) (s (4 * c + 3)) := by
 unfold mixF mixAt
 rw [if_pos (by omega), show (4 * c + i) % 4 = i by omega, show (4 * c + i) / 4 = c by omega]
theorem E16.cols {s t : F8} (h : ∀ c i, c < 4 → i < 4 → s (4 * c + i) = t (4 * c + i)) : E16 s t := fun q hq => by
 have := h (q / 4) (q % 4) (by omega) (by omega)
 rwa [show 4 * (q / 4) + q % 4 = q by omega] at this
theorem mixF_E {two : F8} {s t : F8} (h : E16 s t) : E16 (mixF two s) (mixF two t) := E16.cols fun c i hc hi => by
 rw [mixF_at _ _ hc hi, mixF_at _ _ hc hi, h (4 * c) (by omega), h (4 * c + 1) (by omega), h (4 * c + 2) (by omega), h (4 * c + 3) (by omega)]
def colT (i : Nat) (w x y z : BitVec 8) : BitVec 8 := colv twoF i w x y z
def m8 (i : Nat) (v : BitVec 8 × BitVec 8 × BitVec 8 × BitVec 8) : BitVec 8 := colT i v.1 v.2.1 v.2.2.1 v.2.2.2
def colX (i : Nat) (w x y z : BitVec 8) : BitVec 8 :=
 match i with
 | 0 => (w ^^^ (((w ^^^ x) ^^^ y) ^^^ z)) ^^^ xt (w ^^^ x)
 | 1 => (x ^^^ (((w ^^^ x) ^^^ y) ^^^ z)) ^^^ xt (x ^^^ y)
 | 2 => (y ^^^ (((w ^^^ x) ^^^ y) ^^^ z)) ^^^ xt (y ^^^ z)
 | _ => (z ^^^ (((w ^^^ x) ^^^ y) ^^^ z)) ^^^ xt (z ^^^ w)
theorem colT_X (i : Nat) (w x y z : BitVec 8) : colT i w x y z = colX i w x y z := by
 unfold colT colv colX
 split <;> simp only [two_at]
def shAt (box s : F8) (n : Nat) : F8 := fun q => if q < n then box (s ((q + 4 * (q % 4)) % 16)).toNat else 0#8
def shF (box s : F8) : F8 := shAt box s 16
theorem sh_ok (box s : F8) : Iter (aes_Cipher_Encrypt_l1 box s) (0, fun _ => 0#8) (shF box s) := by
 have e0 : (fun _ => 0#8 : F8) = shAt box s 0 := by funext q; simp [shAt]
 rw [e0]
 refine Iter.count (fun i => (i, shAt box s i)) 16 (fun i hi => ?_) ?_
 · unfold aes_Cipher_Encrypt_l1
   simp only [hi, if_true]
   congr 2
   funext q
   simp only [upd_at, shAt]
   by_cases hq : q = i
   · subst hq; simp
   · rw [if_neg hq]
     by_cases h2 : q < i
     · rw [if_pos h2, if_pos (by omega)]
     · rw [if_neg h2, if_neg (by omega)]
 · unfold aes_Cipher_Encrypt_l1
   simp only [Nat.lt_irrefl, if_false]
   rfl
def ushAt (back s : F8) : Nat → F8
 | 0 => fun _ => 0#8
 | n + 1 => upd (ushAt back s n) ((n + 4 * (n % 4)) % 16) (back (s n).toNat)
def ushF (back s : F8) : F8 := ushAt back s 16
def pi16 (q : Nat) : Nat := (q + 12 * (q % 4)) % 16
theorem shF_at (box s : F8) {q : Nat} (h : q < 16) : shF box s q = box (s ((q + 4 * (q % 4)) % 16)).toNat := if_pos h
theorem ushF_at (back s : F8) {q : Nat} (h : q < 16) : ushF back s q = back (s (pi16 q)).toNat := by
 have h1 : ∀ i, i < 16 → pi16 ((i + 4 * (i % 4)) % 16) = i := by decide
 have h2 : ∀ q, q < 16 → pi16 q < 16 ∧ (pi16 q + 4 * (pi16 q % 4)) % 16 = q := by decide
 exact upd_all (T := fun q => back (s (pi16 q)).toNat) (f := ushAt back s) (idx := fun i => (i + 4 * (i % 4)) % 16) (val := fun i => back (s i).toNat) (m := 16) (fun _ _ => rfl) (fun i hi => by simp only [h1 i hi]) 16 (Nat.le_refl _) q (.inr ⟨_, (h2 q h).1, (h2 q h).2⟩)
theorem shF_E {box s t : F8} (h : E16 s t) : E16 (shF box s) (shF box t) := fun q hq => by rw [shF_at _ _ hq, shF_at _ _ hq, h _ (Nat.mod_lt _ (by omega))]
theorem ushF_E {back s t : F8} (h : E16 s t) : E16 (ushF back s) (ushF back t) := fun q hq => by rw [ushF_at _ _ hq, ushF_at _ _ hq, h (pi16 q) (Nat.mod_lt _ (by omega))]
def encAt (k box two s : F8) : Nat → F8
 | 0 => addF k 0 s
 | i + 1 => addF k (i + 1) (if i + 1 < 14 then mixF two (shF box (encAt k box two s i)) else shF box (encAt k box two s i))
def encF (k box two s : F8) : F8 := encAt k box two s 14
theorem enc_ok (k box back two s : F8) : aes_Cipher_Encrypt k box back two s (encF k box two s) := by
 refine ⟨_, add_ok k box back two s 0 (by omega), encF k box two s, ?_, rfl⟩
 refine Iter.count (fun i => (1 + i, encAt k box two s i)) 14 (fun i hi => ?_) ?_
 · unfold aes_Cipher_Encrypt_l0
   simp only [show 1 + i ≤ 14 by omega, if_true]
   refine ⟨_, sh_ok _ _, if i + 1 < 14 then mixF two (shF box (encAt k box two s i)) else shF box (encAt k box two s i), ?_, _, add_ok _ _ _ _ _ (1 + i) (by omega), ?_⟩
   · rw [Nat.add_comm 1 i]
     by_cases h : i + 1 < 14
     · rw [if_pos h, if_pos h]; exact ⟨_, mix_ok _ _ _ _ _, rfl⟩
     · rw [if_neg h, if_neg h]
   · rw [Nat.add_comm 1 i]; rw [show 1 + (i + 1) = i + 1 + 1 by omega]; rfl
 · unfold aes_Cipher_Encrypt_l0
   simp only [show ¬ (1 + 14 ≤ 14) by omega, if_false]
   rfl
def decAt (k back two s : F8) : Nat → F8
 | 0 => s
 | i + 1 => ushF back (if 14 - i < 14 then mixF two (mixF two (mixF two (addF k (14 - i) (decAt k back two s i)))) else addF k (14 - i) (decAt k back two s i))
def decF (k back two s : F8) : F8 := addF k 0 (decAt k back two s 14)
theorem eqB_E {s t : F8} : eqB 16 s t = true ↔ E16 s t := eqB_iff
end Go.Proofs.Ythjkmhdgenmnoaa
namespace Go.Proofs.Ythjkmhdgenmnoaa
set_option linter.unusedSimpArgs false
set_option linter.unusedVariables false
set_option linter.unusedSectionVars false
open Go Go.LW
def innerAt (m g : F8) (t : Nat) : Nat → F8
 | 0 => m
 | k + 1 => upd (innerAt m g t k) (t * 4 + k) ((innerAt m g t k ((t - 8) * 4 + k)) ^^^ g k)
def gW (box : F8) (pw : BitVec 8) (t : Nat) (m : F8) : F8 :=
 if t % 8 = 0 then lit [box ((fun q => m ((t - 1) * 4 + q)) 1).toNat ^^^ pw, box ((fun q => m ((t - 1) * 4 + q)) 2).toNat, box ((fun q => m ((t - 1) * 4 + q)) 3).toNat, box ((fun q => m ((t - 1) * 4 + q)) 0).toNat]
 else if t % 8 = 4 then lit [box ((fun q => m ((t - 1) * 4 + q)) 0).toNat, box ((fun q => m ((t - 1) * 4 + q)) 1).toNat, box ((fun q => m ((t - 1) * 4 + q)) 2).toNat, box ((fun q => m ((t - 1) * 4 + q)) 3).toNat]
 else fun q => m ((t - 1) * 4 + q)
def pwW (pw : BitVec 8) (t : Nat) : BitVec 8 := if t % 8 = 0 then mul8 pw 2#8 else pw
def exAt (box : F8) (key : List Byte) : Nat → BitVec 8 × F8
 | 0 => (1#8, fun _ => 0#8)
 | t + 1 => if t < 8 then ((exAt box key t).1, spl (exAt box key t).2 (t * 4) (min (seg key (4 * t) key.length).length 4) (lit (seg key (4 * t) key.length)))
   else (pwW (exAt box key t).1 t, innerAt (exAt box key t).2 (gW box (exAt box key t).1 t (exAt box key t).2) t 4)
def kAt (m k0 : F8) (i : Nat) : F8 := fun q => if q < 4 * i then m q else k0 q
def expF (box : F8) (key : List Byte) (k0 : F8) : F8 := kAt (exAt box key 60).2 k0 60
theorem exp_ok (k0 box back two : F8) {key : List Byte} (hk : key.length = 32) : aes_Cipher_expand k0 box back two key (expF box key k0) := by
 refine ⟨(exAt box key 60).2, ?_, expF box key k0, ?_, rfl⟩
 · refine Iter.count (fun t => ((exAt box key t).1, t, (exAt box key t).2)) 60 (fun t ht => ?_) ?_
   · unfold aes_Cipher_expand_l0
     simp only [ht, if_true]
     by_cases h8 : t < 8
     · rw [if_pos h8]
       refine ⟨⟨by omega, Nat.le_refl _⟩, ?_⟩
       simp only [exAt, h8, if_true]
     · rw [if_neg h8]
       refine ⟨pwW (exAt box key t).1 t, gW box (exAt box key t).1 t (exAt box key t).2, ?_, innerAt (exAt box key t).2 (gW box (exAt box key t).1 t (exAt box key t).2) t 4, ?_, ?_⟩
       · by_cases h0 : t % 8 = 0
         · rw [if_pos h0]
           exact ⟨_, mul_ok _ _, by simp only [pwW, h0, if_true], by simp only [gW, h0, if_true]⟩
         · rw [if_neg h0]
           by_cases h4 : t % 8 = 4
           · rw [if_pos h4]; exact ⟨by simp only [pwW, h0, if_false], by unfold gW; rw [if_neg h0, if_pos h4]⟩
           · rw [if_neg h4]; exact ⟨by simp only [pwW, h0, if_false], by unfold gW; rw [if_neg h0, if_neg h4]⟩
       · refine Iter.count (fun k => (k, innerAt (exAt box key t).2 (gW box (exAt box key t).1 t (exAt box key t).2) t k)) 4 (fun k hk => ?_) ?_
         · unfold aes_Cipher_expand_l1
           simp only [hk, if_true]
           rfl
         · unfold aes_Cipher_expand_l1
           simp only [Nat.lt_irrefl, if_false]
       · simp only [exAt, h8, if_false]
   · unfold aes_Cipher_expand_l0
     simp only [Nat.lt_irrefl, if_false]
 · have e0 : kAt (exAt box key 60).2 k0 0 = k0 := by funext q; simp [kAt]
   rw [show (0, k0) = (0, kAt (exAt box key 60).2 k0 0) by rw [e0]]
   unfold expF
   generalize (exAt box key 60).2 = m
   refine Iter.count (fun i => (i, kAt m k0 i)) 60 (fun i hi => ?_) ?_
   · unfold aes_Cipher_expand_l2
     simp only [hi, if_true]
     refine ⟨⟨by omega, by omega, by omega⟩, ?_⟩
     congr 2
     funext q
     have e1 : i / 4 * 16 + 4 * (i % 4) = 4 * i := by omega
     have e2 : min 4 (16 - 4 * (i % 4)) = 4 := by omega
     rw [e1, e2]
     unfold spl kAt
     by_cases h : 4 * i ≤ q ∧ q < 4 * i + 4
     · rw [if_pos h, if_pos (by omega), lit_dl _ (by omega)]
       congr 1; omega
     · rw [if_neg h]
       by_cases h2 : q < 4 * i
       · rw [if_pos h2, if_pos (by omega)]
       · rw [if_neg h2, if_neg (by omega)]
   · unfold aes_Cipher_expand_l2
     simp only [Nat.lt_irrefl, if_false]
def E240 (k k' : F8) : Prop := ∀ q, q < 240 → k q = k' q
theorem expF_E (box : F8) (key : List Byte) (k0 k1 : F8) : E240 (expF box key k0) (expF box key k1) := fun q hq => by
 unfold expF kAt
 rw [if_pos hq, if_pos hq]
def keyF (key : List Byte) : F8 := expF boxF key (fun _ => 0#8)
theorem new_ok {key : List Byte} (hk : key.length = 32) : aes_New key (.inr (keyF key, boxF, backF, twoF, 0)) := by
 unfold aes_New
 rw [if_neg (by omega)]
 exact ⟨_, _, _, fill_ok, _, exp_ok _ _ _ _ hk, rfl⟩
theorem new_no {key : List Byte} (hk : key.length ≠ 32) : aes_New key (.inl 40) := by
 unfold aes_New
 rw [if_pos hk]
theorem addF_k {k k' : F8} (h : E240 k k') {r : Nat} (hr : r < 15) {s t : F8} (hs : E16 s t) : E16 (addF k r s) (addF k' r t) := fun q hq => by
 rw [addF_at _ _ _ hq, addF_at _ _ _ hq, h _ (by omega), hs q hq]
theorem encAt_k {k k' box two s t : F8} (h : E240 k k') (hs : E16 s t) : ∀ i, i ≤ 14 → E16 (encAt k box two s i) (encAt k' box two t i)
 | 0, _ => addF_k h (by omega) hs
 | i + 1, hi => by
   unfold encAt
   refine addF_k h (by omega) ?_
   split
   · exact mixF_E (shF_E (encAt_k h hs i (by omega)))
   · exact shF_E (encAt_k h hs i (by omega))
theorem decAt_k {k k' back two s t : F8} (h : E240 k k') (hs : E16 s t) : ∀ i, i ≤ 14 → E16 (decAt k back two s i) (decAt k' back two t i)
 | 0, _ => hs
 | i + 1, hi => by
   unfold decAt
   refine ushF_E ?_
   split
   · exact mixF_E (mixF_E (mixF_E (addF_k h (by omega) (decAt_k h hs i (by omega)))))
   · exact addF_k h (by omega) (decAt_k h hs i (by omega))
theorem encF_k {k k' box two s t : F8} (h : E240 k k') (hs : E16 s t) : E16 (encF k box two s) (encF k' box two t) := encAt_k h hs 14 (Nat.le_refl _)
theorem decF_k {k k' back two s t : F8} (h : E240 k k') (hs : E16 s t) : E16 (decF k back two s) (decF k' back two t) := addF_k h (by omega) (decAt_k h hs 14 (Nat.le_refl _))
def nxAt (s : F8) (n : BitVec 64) : Nat → BitVec 64 × BitVec 64 × F8
 | 0 => (n, 0#64, s)
 | i + 1 => ((nxAt s n i).1 >>> 8, ((((nxAt s n i).2.2 (15 - i)).setWidth 64 + ((nxAt s n i).1 &&& 255#64)) + (nxAt s n i).2.1) >>> 8,
     upd (nxAt s n i).2.2 (15 - i) (((((nxAt s n i).2.2 (15 - i)).setWidth 64 + ((nxAt s n i).1 &&& 255#64)) + (nxAt s n i).2.1).setWidth 8))
def nextF (s : F8) (n : BitVec 64) : F8 := (nxAt s n 16).2.2
theorem next_ok (s : F8) (n : BitVec 64) : aes_Next s n (nextF s n) := by
 refine ⟨_, ?_, rfl⟩
 refine Iter.count (fun i => ((nxAt s n i).1, (nxAt s n i).2.1, (15 : Int) - i, (nxAt s n i).2.2)) 16 (fun i hi => ?_) ?_
 · unfold aes_Next_l0
   have e1 : ((15 : Int) - i).toNat = 15 - i := by omega
   dsimp only
   rw [if_pos (show (0 : Int) ≤ 15 - (i : Int) by omega), e1]
   refine ⟨⟨by omega, by omega⟩, ⟨by omega, by omega⟩, ⟨by omega, by omega⟩, ?_⟩
   congr 4
   omega
 · unfold aes_Next_l0
   simp only [show ¬ ((0 : Int) ≤ 15 - ((16 : Nat) : Int)) by omega, if_false]
   rfl
def inAt (out : List Byte) (a : Nat) (x : F8) : Nat → List Byte
 | 0 => out
 | t + 1 => (inAt out a x t).set (a + t) (lit (inAt out a x t) (a + t) ^^^ x t)
theorem inAt_length (out : List Byte) (a : Nat) (x : F8) : ∀ t, (inAt out a x t).length = out.length
 | 0 => rfl
 | t + 1 => by unfold inAt; rw [List.length_set]; exact inAt_length out a x t
def stAt (k box two first : F8) (text : List Byte) : Nat → List Byte × F8
 | 0 => (text, first)
 | i + 1 => (inAt (stAt k box two first text i).1 (16 * i) (encF k box two (stAt k box two first text i).2) (min 16 (text.length - 16 * i)), nextF (stAt k box two first text i).2 1#64)
def strF (k box two first : F8) (text : List Byte) : List Byte := (stAt k box two first text ((text.length + 15) / 16)).1
theorem str_ok (k box back two first : F8) {text : List Byte} (hl : text.length ≤ 140737488355328) : aes_Cipher_Stream k box back two first text (strF k box two first text) := by
 refine ⟨by omega, _, ?_, rfl⟩
 simp only [List.nil_append]
 refine Iter.count (fun i => ((stAt k box two first text i).1, 16 * i, (stAt k box two first text i).2)) ((text.length + 15) / 16) (fun i hi => ?_) ?_
 · unfold aes_Cipher_Stream_l0
   simp only [List.nil_append]
   rw [if_pos (by omega)]
   refine ⟨_, enc_ok _ _ _ _ _, by omega, inAt (stAt k box two first text i).1 (16 * i) (encF k box two (stAt k box two first text i).2) (min 16 (text.length - 16 * i)), ?_, _, next_ok _ _, by omega, rfl⟩
   refine Iter.count (fun t => (inAt (stAt k box two first text i).1 (16 * i) (encF k box two (stAt k box two first text i).2) t, t)) (min 16 (text.length - 16 * i)) (fun t ht => ?_) ?_
   · unfold aes_Cipher_Stream_l1
     simp only [List.nil_append]
     rw [if_pos (by omega)]
     exact ⟨by omega, by omega, by omega, rfl⟩
   · unfold aes_Cipher_Stream_l1
     simp only [List.nil_append]
     rw [if_neg (by omega)]
     trivial
 · unfold aes_Cipher_Stream_l0
   simp only [List.nil_append]
   rw [if_neg (by omega)]
   rfl
theorem inAt_E (out : List Byte) (a : Nat) {x y : F8} (h : E16 x y) : ∀ t, t ≤ 16 → inAt out a x t = inAt out a y t
 | 0, _ => rfl
 | t + 1, ht => by unfold inAt; rw [inAt_E out a h t (by omega), h t (by omega)]
theorem stAt_k {k k' box two first : F8} (h : E240 k k') (text : List Byte) : ∀ i, stAt k box two first text i = stAt k' box two first text i
 | 0 => rfl
 | i + 1 => by
   unfold stAt
   rw [stAt_k h text i, inAt_E _ _ (encF_k h E16.rfl') _ (by omega)]
theorem strF_k {k k' box two first : F8} (h : E240 k k') (text : List Byte) : strF k box two first text = strF k' box two first text := by
 unfold strF; rw [stAt_k h]
end Go.Proofs.Ythjkmhdgenmnoaa
namespace Go.Proofs.Ythjkmhdgenmnoaa
set_option linter.unusedSimpArgs false
set_option linter.unusedVariables false
set_option linter.unusedSectionVars false
open Go Go.LW
def ctr (first : F8) : Nat → F8
 | 0 => first
 | i + 1 => nextF (ctr first i) 1#64
theorem stAt_ctr (k box two first : F8) (text : List Byte) : ∀ i, (stAt k box two first text i).2 = ctr first i
 | 0 => rfl
 | i + 1 => by unfold stAt ctr; rw [stAt_ctr k box two first text i]
theorem lit_set {X : List Byte} {i q : Nat} {v : Byte} (h : i < X.length) : lit (X.set i v) q = if q = i then v else lit X q := by
 unfold lit
 rw [List.getD_eq_getElem?_getD, List.getD_eq_getElem?_getD]
 by_cases hq : q = i
 · subst hq; rw [if_pos rfl, List.getElem?_set_self h]; rfl
 · rw [if_neg hq, List.getElem?_set_ne (Ne.symm hq)]
theorem inAt_at {out : List Byte} {a : Nat} {x : F8} : ∀ t, a + t ≤ out.length → ∀ q, lit (inAt out a x t) q = if a ≤ q ∧ q < a + t then lit out q ^^^ x (q - a) else lit out q
 | 0, _, q => by rw [if_neg (by omega)]; rfl
 | t + 1, h, q => by
   unfold inAt
   rw [lit_set (by rw [inAt_length]; omega), inAt_at t (by omega), inAt_at t (by omega)]
   by_cases hq : q = a + t
   · subst hq
     rw [if_pos rfl, if_neg (by omega), if_pos (by omega), Nat.add_sub_cancel_left]
   · rw [if_neg hq]
     by_cases h2 : a ≤ q ∧ q < a + t
     · rw [if_pos h2, if_pos (by omega)]
     · rw [if_neg h2, if_neg (by omega)]
theorem stAt_length (k box two first : F8) (text : List Byte) : ∀ i, (stAt k box two first text i).1.length = text.length
 | 0 => rfl
 | i + 1 => by unfold stAt; rw [inAt_length, stAt_length k box two first text i]
theorem stAt_at (k box two first : F8) (text : List Byte) : ∀ i, 16 * i < text.length + 16 → ∀ q, q < text.length → lit (stAt k box two first text i).1 q = if q < 16 * i then lit text q ^^^ encF k box two (ctr first (q / 16)) (q % 16) else lit text q
 | 0, _, q, _ => rfl
 | i + 1, h, q, hq => by
   unfold stAt
   rw [inAt_at _ (by rw [stAt_length]; omega), stAt_ctr, stAt_at k box two first text i (by omega) q hq]
   by_cases h1 : q < 16 * i
   · rw [if_neg (by omega), if_pos h1, if_pos (by omega)]
   · by_cases h2 : q < 16 * (i + 1)
     · rw [if_pos (by omega), if_neg h1, if_pos h2, show q / 16 = i by omega, show q - 16 * i = q % 16 by omega]
     · rw [if_neg (by omega), if_neg h1, if_neg h2]
theorem strF_length (k box two first : F8) (text : List Byte) : (strF k box two first text).length = text.length := stAt_length _ _ _ _ _ _
theorem strF_at (k box two first : F8) (text : List Byte) {q : Nat} (hq : q < text.length) : lit (strF k box two first text) q = lit text q ^^^ encF k box two (ctr first (q / 16)) (q % 16) := by
 unfold strF
 rw [stAt_at k box two first text _ (by omega) q hq, if_pos (by omega)]
theorem list_ext {X Y : List Byte} (hl : X.length = Y.length) (h : ∀ q, q < X.length → lit X q = lit Y q) : X = Y := by
 rw [← lit_of X, ← lit_of Y, ← hl]
 exact List.map_congr_left fun q hq => h q (List.mem_range.1 hq)
end Go.Proofs.Ythjkmhdgenmnoaa
namespace Go.Proofs.Ythjkmhdgenmnoaa
set_option linter.unusedSimpArgs false
set_option linter.unusedVariables false
set_option linter.unusedSectionVars false
open Go Go.LW
theorem box_ok (x : BitVec 8) : aes_Box x (sb x) := ⟨_, _, _, fill_ok, (box_at x).symm⟩
theorem unbox_ok (x : BitVec 8) : aes_Unbox x (isb x) := ⟨_, _, _, fill_ok, (back_at x).symm⟩
theorem ush_ok (back s : F8) : Iter (aes_Cipher_Decrypt_l1 back s) (0, fun _ => 0#8) (ushF back s) := by
 refine Iter.count (fun i => (i, ushAt back s i)) 16 (fun i hi => ?_) ?_
 · unfold aes_Cipher_Decrypt_l1
   simp only [hi, if_true]
   rfl
 · unfold aes_Cipher_Decrypt_l1
   simp only [Nat.lt_irrefl, if_false]
   rfl
theorem dec_ok (k box back two s : F8) : aes_Cipher_Decrypt k box back two s (decF k back two s) := by
 refine ⟨decAt k back two s 14, ?_, _, add_ok k box back two _ 0 (by omega), rfl⟩
 refine Iter.count (fun i => ((14 : Int) - i, decAt k back two s i)) 14 (fun i hi => ?_) ?_
 · unfold aes_Cipher_Decrypt_l0
   have e1 : (14 : Int) - i = ((14 - i : Nat) : Int) := by omega
   simp only [show (1 : Int) ≤ 14 - (i : Int) by omega, if_true]
   have h1 := add_ok k box back two (decAt k back two s i) (14 - i) (by omega)
   rw [← e1] at h1
   refine ⟨_, h1, if 14 - i < 14 then mixF two (mixF two (mixF two (addF k (14 - i) (decAt k back two s i)))) else addF k (14 - i) (decAt k back two s i), ?_, _, ush_ok _ _, ⟨by omega, by omega⟩, ?_⟩
   · by_cases h : 14 - i < 14
     · rw [if_pos (by omega), if_pos h]; exact ⟨_, mix_ok _ _ _ _ _, _, mix_ok _ _ _ _ _, _, mix_ok _ _ _ _ _, rfl⟩
     · rw [if_neg (by omega), if_neg h]
   · congr 2
     omega
 · unfold aes_Cipher_Decrypt_l0
   simp only [show ¬ ((1 : Int) ≤ 14 - ((14 : Nat) : Int)) by omega, if_false]
end Go.Proofs.Ythjkmhdgenmnoaa
namespace Go.Proofs.Ythjkmhdgenmnoaa
set_option linter.unusedSimpArgs false
set_option linter.unusedVariables false
set_option linter.unusedSectionVars false
open Go Go.LW
theorem iter_ga {S X : Type} {step : S → S ⊕ X → Prop} (J : S → Prop) (Q : X → Prop) (μ : S → Nat)
   (h : ∀ s, J s → (∃ x, step s (.inr x) ∧ Q x) ∨ ∃ s', step s (.inl s') ∧ J s' ∧ μ s' < μ s) : ∀ n s, μ s < n → J s → ∃ x, Iter step s x ∧ Q x
 | 0, s, hn, _ => absurd hn (Nat.not_lt_zero _)
 | n + 1, s, hn, hJ => by
   rcases h s hJ with ⟨x, hx, hQ⟩ | ⟨s', hs, hJ', hm⟩
   · exact ⟨x, .done hx, hQ⟩
   · obtain ⟨x, hx, hQ⟩ := iter_ga J Q μ h n s' (by omega) hJ'
     exact ⟨x, .more hs hx, hQ⟩
def mkl {α : Type} (f : Nat → α) (l : List α) (i : Nat) : List α := (List.range i).map f ++ l.drop i
theorem mkl_all {α : Type} (f : Nat → α) (l : List α) : mkl f l l.length = (List.range l.length).map f := by unfold mkl; rw [List.drop_length, List.append_nil]
theorem mkl_set {α : Type} (f : Nat → α) (l : List α) {i : Nat} (h : i < l.length) : (mkl f l i).set i (f i) = mkl f l (i + 1) := by
 unfold mkl
 rw [List.set_append, if_neg (by rw [List.length_map, List.length_range]; omega), List.length_map, List.length_range, Nat.sub_self, List.drop_eq_getElem_cons h, List.set_cons_zero, List.range_succ, List.map_append, List.append_assoc]
 rfl
theorem mkl_lit (f : Nat → Byte) (l : List Byte) {i : Nat} (h : i < l.length) : lit (mkl f l (i + 1)) i = f i := by
 unfold lit mkl
 rw [List.getD_eq_getElem?_getD, List.getElem?_append_left (by rw [List.length_map, List.length_range]; omega), List.getElem?_map, List.getElem?_range (by omega)]
 rfl
theorem map_snoc {α : Type} (f : Nat → α) (i : Nat) : (List.range i).map f ++ [f i] = (List.range (i + 1)).map f := by rw [List.range_succ, List.map_append]; rfl
def rooM (X : List Byte) : List Byte := X ++ [209#8, 210#8, 211#8]
theorem rooM_length (X : List Byte) : (rooM X).length = X.length + 3 := by unfold rooM; rw [List.length_append]; rfl
theorem rooM_seg (X : List Byte) : seg (rooM X) 0 X.length = X := by unfold seg rooM; simp
end Go.Proofs.Ythjkmhdgenmnoaa
namespace Go.Proofs.Ythjkmhdgenmnoaa
set_option linter.unusedSimpArgs false
set_option linter.unusedVariables false
set_option linter.unusedSectionVars false
open Go Go.LW
set_option maxRecDepth 10000
def pA (a b : Byte) : Nat → Nat
 | 0 => 0
 | i + 1 => if (b >>> i) &&& 1#8 = 1#8 then pA a b i ^^^ (a.toNat * 2 ^ i) else pA a b i
def rB (p : Nat) : Nat → Nat
 | 0 => p
 | j + 1 => if (rB p j / 2 ^ (14 - j)) &&& 1 = 1 then rB p j ^^^ (283 * 2 ^ (14 - j - 8)) else rB p j
theorem pA_lt (a b : Byte) : ∀ i, i ≤ 8 → pA a b i < 2 ^ 16
 | 0, _ => by show 0 < 2 ^ 16; decide
 | i + 1, h => by
   have h1 := pA_lt a b i (by omega)
   have h2 : a.toNat * 2 ^ i < 2 ^ 16 := by
     have h3 : 2 ^ i ≤ 2 ^ 7 := Nat.pow_le_pow_right (by omega) (by omega)
     have h4 := a.isLt
     calc a.toNat * 2 ^ i ≤ 255 * 2 ^ 7 := Nat.mul_le_mul (by omega) h3
       _ < 2 ^ 16 := by decide
   unfold pA
   split
   · exact Nat.xor_lt_two_pow h1 h2
   · exact h1
theorem rB_lt {p : Nat} (hp : p < 2 ^ 16) : ∀ j, j ≤ 7 → rB p j < 2 ^ 16
 | 0, _ => hp
 | j + 1, h => by
   have h1 := rB_lt hp j (by omega)
   have h2 : 283 * 2 ^ (14 - j - 8) < 2 ^ 16 := by
     have h3 : 2 ^ (14 - j - 8) ≤ 2 ^ 6 := Nat.pow_le_pow_right (by omega) (by omega)
     calc 283 * 2 ^ (14 - j - 8) ≤ 283 * 2 ^ 6 := Nat.mul_le_mul (Nat.le_refl _) h3
       _ < 2 ^ 16 := by decide
   unfold rB
   split
   · exact Nat.xor_lt_two_pow h1 h2
   · exact h1
theorem bit_and {p i : Nat} : ((p / 2 ^ i) &&& 1 = 1) ↔ p.testBit i = true := by
 rw [Nat.and_one_is_mod, Nat.testBit_eq_decide_div_mod_eq, decide_eq_true_iff]
theorem xsN (a b : Nat) : a ^^^ (a ^^^ b) = b := by rw [← Nat.xor_assoc, Nat.xor_self, Nat.zero_xor]
theorem rB_add (p q : Nat) : ∀ j, rB (p ^^^ q) j = rB p j ^^^ rB q j
 | 0 => rfl
 | j + 1 => by
   unfold rB
   rw [rB_add p q j]
   simp only [bit_and, Nat.testBit_xor]
   generalize rB p j = x
   generalize rB q j = y
   generalize 283 * 2 ^ (14 - j - 8) = m
   cases x.testBit (14 - j) <;> cases y.testBit (14 - j) <;> simp only [Bool.xor_false, Bool.xor_true, Bool.not_true, Bool.not_false, if_true, Bool.false_eq_true, if_false, Nat.xor_assoc]
   · rw [Nat.xor_comm m y]
   · rw [Nat.xor_comm y m, xsN]
theorem bitb_add (b c : Byte) (i : Fin 8) : ((((b ^^^ c) >>> i.val) &&& 1#8 = 1#8) ↔ ¬ (((b >>> i.val) &&& 1#8 = 1#8) ↔ ((c >>> i.val) &&& 1#8 = 1#8))) := by
 have h : ∀ (i : Fin 8) (x : Byte), ((x >>> i.val) &&& 1#8 = 1#8) ↔ x.getLsbD i.val = true := by decide +kernel
 rw [h, h, h, BitVec.getLsbD_xor]
 cases b.getLsbD i.val <;> cases c.getLsbD i.val <;> simp
theorem pA_add (a b c : Byte) : ∀ i, i ≤ 8 → pA a (b ^^^ c) i = pA a b i ^^^ pA a c i
 | 0, _ => (Nat.xor_self 0).symm
 | i + 1, hi => by
   unfold pA
   rw [pA_add a b c i (by omega)]
   have h := bitb_add b c ⟨i, by omega⟩
   dsimp only at h
   simp only [h]
   generalize pA a b i = x
   generalize pA a c i = y
   generalize a.toNat * 2 ^ i = m
   by_cases h1 : (b >>> i) &&& 1#8 = 1#8
   · by_cases h2 : (c >>> i) &&& 1#8 = 1#8
     · simp only [h1, h2, not_true_eq_false, if_true, if_false]
       rw [Nat.xor_assoc, Nat.xor_comm y m, xsN]
     · simp only [h1, h2, iff_false, not_true_eq_false, not_false_eq_true, if_true, if_false]
       rw [Nat.xor_assoc, Nat.xor_assoc, Nat.xor_comm y m]
   · by_cases h2 : (c >>> i) &&& 1#8 = 1#8
     · simp only [h1, h2, false_iff, not_true_eq_false, not_false_eq_true, if_true, if_false]
       rw [Nat.xor_assoc]
     · simp only [h1, h2, not_true_eq_false, if_false]
def mulR (a b : Byte) : Byte := BitVec.ofNat 8 (rB (pA a b 8) 7)
theorem mulR_add (a : Byte) : Add8 fun b => mulR a b := fun b c => by
 show BitVec.ofNat 8 (rB (pA a (b ^^^ c) 8) 7) = BitVec.ofNat 8 (rB (pA a b 8) 7) ^^^ BitVec.ofNat 8 (rB (pA a c 8) 7)
 rw [pA_add a b c 8 (Nat.le_refl _), rB_add, BitVec.ofNat_xor]
theorem mulR_eq (a b : Byte) : mulR a b = mul8 a b := by
 have h : ∀ a : Byte, ∀ i : Fin 8, mulR a (1#8 <<< i.val) = mul8 a (1#8 <<< i.val) := by decide +kernel
 exact ext8 (mulR_add a) (mul_addR a) (fun i hi => h a ⟨i, hi⟩) b
theorem refmul_ok (a b : Byte) : letheref04_Mul a b (mul8 a b) := by
 rw [← mulR_eq]
 refine ⟨pA a b 8, ?_, rB (pA a b 8) 7, ?_, rfl⟩
 · refine Iter.count (fun i => (pA a b i, i)) 8 (fun i hi => ?_) ?_
   · unfold letheref04_Mul_l0; dsimp only
     have h1 := pA_lt a b i (by omega)
     have h3 : 2 ^ i ≤ 2 ^ 7 := Nat.pow_le_pow_right (by omega) (by omega)
     have h4 := a.isLt
     have h2 : a.toNat * 2 ^ i ≤ 255 * 2 ^ 7 := Nat.mul_le_mul (by omega) h3
     rw [if_pos hi, pA]
     by_cases hb : (b >>> i) &&& 1#8 = 1#8
     · rw [if_pos hb, if_pos hb]; exact ⟨⟨by omega, by omega⟩, ⟨by omega, by omega⟩, rfl⟩
     · rw [if_neg hb, if_neg hb]
   · unfold letheref04_Mul_l0; dsimp only; rw [if_neg (by omega)]
 · have hp := pA_lt a b 8 (Nat.le_refl _)
   generalize pA a b 8 = p at hp
   refine Iter.count (fun j => (rB p j, (14 : Int) - j)) 7 (fun j hj => ?_) ?_
   · unfold letheref04_Mul_l1; dsimp only
     have h1 := rB_lt hp j (by omega)
     have e1 : ((14 : Int) - j).toNat = 14 - j := by omega
     have e2 : ((14 : Int) - j - 8).toNat = 14 - j - 8 := by omega
     have h3 : 2 ^ (14 - j - 8) ≤ 2 ^ 6 := Nat.pow_le_pow_right (by omega) (by omega)
     have h2 : 283 * 2 ^ (14 - j - 8) ≤ 283 * 2 ^ 6 := Nat.mul_le_mul (Nat.le_refl _) h3
     have h5 := Nat.div_le_self (rB p j) (2 ^ (14 - j))
     have e3 : (14 : Int) - ((j + 1 : Nat) : Int) = 14 - (j : Int) - 1 := by omega
     rw [if_pos (by omega), e1, e2, rB, e3]
     refine ⟨by omega, by omega, ⟨by omega, by omega⟩, ?_⟩
     by_cases hb : (rB p j / 2 ^ (14 - j)) &&& 1 = 1
     · rw [if_pos hb, if_pos hb]; exact ⟨by omega, by omega, ⟨by omega, by omega⟩, ⟨by omega, by omega⟩, by omega, rfl⟩
     · rw [if_neg hb, if_neg hb]; exact ⟨by omega, rfl⟩
   · unfold letheref04_Mul_l1; dsimp only; rw [if_neg (by omega)]
theorem refbox_ok : ∃ x, letheref04_box x ∧ ∀ v : Byte, x v.toNat = sb v := ⟨_, rfl, by decide +kernel⟩
theorem innerAt_at (m g : F8) {t : Nat} (ht : 8 ≤ t) : ∀ k, k ≤ 4 → ∀ p, innerAt m g t k p = if t * 4 ≤ p ∧ p < t * 4 + k then m ((t - 8) * 4 + (p - t * 4)) ^^^ g (p - t * 4) else m p
 | 0, _, p => by rw [if_neg (by omega)]; rfl
 | k + 1, hk, p => by
   have e8 : ¬ (t * 4 ≤ (t - 8) * 4 + k ∧ (t - 8) * 4 + k < t * 4 + k) := by omega
   rw [innerAt, upd_at, innerAt_at m g ht k (by omega) ((t - 8) * 4 + k), if_neg e8]
   by_cases hp : p = t * 4 + k
   · subst hp
     rw [if_pos rfl, if_pos (by omega)]
     have e : t * 4 + k - t * 4 = k := by omega
     rw [e]
   · rw [if_neg hp, innerAt_at m g ht k (by omega) p]
     by_cases h1 : t * 4 ≤ p ∧ p < t * 4 + k
     · rw [if_pos h1, if_pos (by omega)]
     · rw [if_neg h1, if_neg (by omega)]
def WS (key : List Byte) (t : Nat) (m : List (Nat → Byte)) : Prop := m.length = t ∧ ∀ s, s < t → ∀ q, q < 4 → m.getD s (fun _ => 0#8) q = (exAt boxF key t).2 (s * 4 + q)
theorem WS.snoc {key : List Byte} {t : Nat} {m : List (Nat → Byte)} (h : WS key t m) {x : Nat → Byte} (hx : ∀ q, q < 4 → x q = (exAt boxF key (t + 1)).2 (t * 4 + q)) (ho : ∀ p, p < t * 4 → (exAt boxF key (t + 1)).2 p = (exAt boxF key t).2 p) : WS key (t + 1) (m ++ [x]) := by
 obtain ⟨h1, h2⟩ := h
 refine ⟨by rw [List.length_append, h1]; rfl, fun s hs q hq => ?_⟩
 by_cases hst : s < t
 · rw [List.getD_eq_getElem?_getD, List.getElem?_append_left (by omega), ← List.getD_eq_getElem?_getD, h2 s hst q hq, ho _ (by omega)]
 · obtain rfl : s = t := by omega
   rw [List.getD_eq_getElem?_getD, List.getElem?_append_right (by omega), h1, Nat.sub_self]
   exact hx q hq
def uR (x : Nat → Byte) : Nat → Nat → Byte
 | 0 => fun _ => 0#8
 | a + 1 => upd (uR x a) (x a).toNat (BitVec.ofNat 8 a)
theorem uR_at {x : Nat → Byte} (hx : ∀ v : Byte, x v.toNat = sb v) (v : Byte) : uR x 256 v.toNat = isb v := by
 have hxn : ∀ i, i < 256 → x i = sb (BitVec.ofNat 8 i) := fun i hi => by
   have := hx (BitVec.ofNat 8 i)
   rwa [BitVec.toNat_ofNat, Nat.mod_eq_of_lt (by omega)] at this
 refine upd_all (T := fun n => isb (BitVec.ofNat 8 n)) (f := uR x) (idx := fun a => (x a).toNat) (val := fun a => BitVec.ofNat 8 a) (m := 256) (fun _ _ => rfl) (fun i hi => ?_) 256 (Nat.le_refl _) v.toNat (.inr ⟨(isb v).toNat, (isb v).isLt, ?_⟩) |>.trans ?_
 · rw [hxn i hi, BitVec.ofNat_toNat, BitVec.setWidth_eq, isb_sb]
 · rw [hx, sb_isb]
 · rw [BitVec.ofNat_toNat, BitVec.setWidth_eq]
structure RC (key : List Byte) (W : List (Nat → Byte)) (x u : Nat → Byte) : Prop where
 len : W.length = 60
 at_ : ∀ s, s < 60 → ∀ q, q < 4 → W.getD s (fun _ => 0#8) q = keyF key (s * 4 + q)
 box : ∀ v : Byte, x v.toNat = sb v
 unb : ∀ v : Byte, u v.toNat = isb v
theorem refnew_ok {key : List Byte} (hk : key.length = 32) : ∃ W x u, letheref04_New key (.inr (W, x, u)) ∧ RC key W x u := by
 obtain ⟨x, hb, hx⟩ := refbox_ok
 have e8 : key.length / 4 = 8 := by omega
 -- the first eight words
 have l1 : ∃ m, Iter (letheref04_New_l1 key) (0, []) m ∧ WS key 8 m := by
   refine iter_ga (step := letheref04_New_l1 key) (fun s : Nat × List (Nat → Byte) => s.1 ≤ 8 ∧ WS key s.1 s.2) (fun m => WS key 8 m) (fun s => 8 - s.1) ?_ 9 (0, []) (by dsimp only; omega) ⟨by dsimp only; omega, rfl, fun s hs => absurd hs (Nat.not_lt_zero _)⟩
   rintro ⟨i, m⟩ ⟨hi, hm⟩
   dsimp only at hi hm ⊢
   unfold letheref04_New_l1; dsimp only
   rw [e8]
   by_cases h : i < 8
   · have hl := hm.1
     refine .inr ⟨(i + 1, m ++ [lit [lit key (4 * i), lit key (4 * i + 1), lit key (4 * i + 2), lit key (4 * i + 3)]]), ?_, ⟨by dsimp only; omega, ?_⟩, by dsimp only; omega⟩
     · rw [if_pos h]
       refine ⟨by omega, by omega, by omega, by omega, by omega, by omega, by omega, by omega, by omega, by omega, by omega, ?_, by omega, rfl⟩
       rw [hl, List.length_singleton]; omega
     · have hsl : (seg key (4 * i) key.length).length = 32 - 4 * i := by rw [seg_length (by omega)]; omega
       have hmin : min (seg key (4 * i) key.length).length 4 = 4 := by rw [hsl]; omega
       refine hm.snoc (fun q hq => ?_) fun p hp => ?_
       · unfold exAt
         rw [if_pos h]
         dsimp only
         rw [hmin, spl_in _ _ _ _ _ (by omega)]
         have e : i * 4 + q - i * 4 = q := by omega
         rw [e, lit_seg (Nat.le_refl _) (by omega)]
         match q, hq with
         | 0, _ => rfl
         | 1, _ => rfl
         | 2, _ => rfl
         | 3, _ => rfl
       · show (exAt boxF key (i + 1)).2 p = _
         rw [exAt, if_pos h]
         dsimp only
         rw [spl_out _ _ _ _ _ (by omega)]
   · obtain rfl : i = 8 := by omega
     exact .inl ⟨m, by rw [if_neg h], hm⟩
 obtain ⟨m8, hm8, hW8⟩ := l1
 have l2 : ∃ m, Iter (letheref04_New_l2 key x) (1#8, 8, m8) m ∧ WS key 60 m := by
   have e0 : (exAt boxF key 8).1 = 1#8 := rfl
   refine iter_ga (step := letheref04_New_l2 key x) (fun s : Byte × Nat × List (Nat → Byte) => 8 ≤ s.2.1 ∧ s.2.1 ≤ 60 ∧ s.1 = (exAt boxF key s.2.1).1 ∧ WS key s.2.1 s.2.2) (fun m => WS key 60 m) (fun s => 60 - s.2.1) ?_ 53 (1#8, 8, m8) (by dsimp only; omega) ⟨by dsimp only; omega, by dsimp only; omega, e0.symm, hW8⟩
   rintro ⟨pw, i, m⟩ ⟨h8, h60, hp, hm⟩
   dsimp only at h8 h60 hp hm ⊢
   subst hp
   unfold letheref04_New_l2; dsimp only
   rw [e8]
   by_cases h : i < 60
   · have hl := hm.1
     have i1 : (((i : Nat) : Int) - 1).toNat = i - 1 := by omega
     have i8 : (((i : Nat) : Int) - ((8 : Nat) : Int)).toNat = i - 8 := by omega
     obtain ⟨g, hg, hgw⟩ : ∃ g : Nat → Byte, (∀ q, q < 4 → g q = gW boxF (exAt boxF key i).1 i (exAt boxF key i).2 q) ∧ (
         if i % 8 = 0 then ∃ x_312, letheref04_Mul (exAt boxF key i).1 2#8 x_312 ∧ pwW (exAt boxF key i).1 i = x_312 ∧ g = upd (lit [x ((m.getD (i - 1) (fun _ => 0#8) 1).toNat), x ((m.getD (i - 1) (fun _ => 0#8) 2).toNat), x ((m.getD (i - 1) (fun _ => 0#8) 3).toNat), x ((m.getD (i - 1) (fun _ => 0#8) 0).toNat)]) 0 ((lit [x ((m.getD (i - 1) (fun _ => 0#8) 1).toNat), x ((m.getD (i - 1) (fun _ => 0#8) 2).toNat), x ((m.getD (i - 1) (fun _ => 0#8) 3).toNat), x ((m.getD (i - 1) (fun _ => 0#8) 0).toNat)]) 0 ^^^ (exAt boxF key i).1)
         else if i % 8 = 4 then pwW (exAt boxF key i).1 i = (exAt boxF key i).1 ∧ g = lit [x ((m.getD (i - 1) (fun _ => 0#8) 0).toNat), x ((m.getD (i - 1) (fun _ => 0#8) 1).toNat), x ((m.getD (i - 1) (fun _ => 0#8) 2).toNat), x ((m.getD (i - 1) (fun _ => 0#8) 3).toNat)]
         else pwW (exAt boxF key i).1 i = (exAt boxF key i).1 ∧ g = m.getD (i - 1) (fun _ => 0#8)) := by
       have hw : ∀ q, q < 4 → m.getD (i - 1) (fun _ => 0#8) q = (exAt boxF key i).2 ((i - 1) * 4 + q) := fun q hq => hm.2 (i - 1) (by omega) q hq
       have hbx : ∀ v : Byte, x v.toNat = boxF v.toNat := fun v => by rw [hx, box_at]
       by_cases h0 : i % 8 = 0
       · refine ⟨_, fun q hq => ?_, by rw [if_pos h0]; exact ⟨_, refmul_ok _ _, by unfold pwW; rw [if_pos h0], rfl⟩⟩
         unfold gW
         rw [if_pos h0]
         dsimp only
         rw [← hw 0 (by omega), ← hw 1 (by omega), ← hw 2 (by omega), ← hw 3 (by omega), upd_at]
         match q, hq with
         | 0, _ => rw [if_pos rfl]; exact congrArg (· ^^^ _) (hbx _)
         | 1, _ => rw [if_neg (by omega)]; exact hbx _
         | 2, _ => rw [if_neg (by omega)]; exact hbx _
         | 3, _ => rw [if_neg (by omega)]; exact hbx _
       · by_cases h4 : i % 8 = 4
         · refine ⟨_, fun q hq => ?_, by rw [if_neg h0, if_pos h4]; exact ⟨by unfold pwW; rw [if_neg h0], rfl⟩⟩
           unfold gW
           rw [if_neg h0, if_pos h4]
           dsimp only
           rw [← hw 0 (by omega), ← hw 1 (by omega), ← hw 2 (by omega), ← hw 3 (by omega)]
           match q, hq with
           | 0, _ => exact hbx _
           | 1, _ => exact hbx _
           | 2, _ => exact hbx _
           | 3, _ => exact hbx _
         · refine ⟨_, fun q hq => ?_, by rw [if_neg h0, if_neg h4]; exact ⟨by unfold pwW; rw [if_neg h0], rfl⟩⟩
           unfold gW
           rw [if_neg h0, if_neg h4]
           exact hw q hq
     have ex1 : exAt boxF key (i + 1) = (pwW (exAt boxF key i).1 i, innerAt (exAt boxF key i).2 (gW boxF (exAt boxF key i).1 i (exAt boxF key i).2) i 4) := by
       rw [exAt, if_neg (by omega)]
     refine .inr ⟨(pwW (exAt boxF key i).1 i, i + 1, m ++ [lit [m.getD (i - 8) (fun _ => 0#8) 0 ^^^ g 0, m.getD (i - 8) (fun _ => 0#8) 1 ^^^ g 1, m.getD (i - 8) (fun _ => 0#8) 2 ^^^ g 2, m.getD (i - 8) (fun _ => 0#8) 3 ^^^ g 3]]), ?_, ⟨by dsimp only; omega, by dsimp only; omega, by dsimp only; rw [ex1], ?_⟩, by dsimp only; omega⟩
     · refine ⟨by omega, by omega, ?_⟩
       rw [if_pos (by omega), i1, i8, hl]
       refine ⟨by omega, by omega, pwW (exAt boxF key i).1 i, g, ⟨by omega, ?_⟩, by omega, by omega, ?_, by omega, rfl⟩
       · by_cases h0 : i % 8 = 0
         · rw [if_pos h0] at hgw ⊢; exact hgw
         · rw [if_neg h0] at hgw ⊢
           rw [if_pos rfl]
           by_cases h4 : i % 8 = 4
           · rw [if_pos h4] at hgw ⊢; exact hgw
           · rw [if_neg h4] at hgw ⊢; exact hgw
       · simp only [List.length_singleton]; omega
     · refine hm.snoc (fun q hq => ?_) fun p hp => ?_
       · rw [ex1]
         dsimp only
         rw [innerAt_at _ _ h8 4 (Nat.le_refl _), if_pos (by omega)]
         have e : i * 4 + q - i * 4 = q := by omega
         rw [e, ← hg q hq, ← hm.2 (i - 8) (by omega) q hq]
         match q, hq with
         | 0, _ => rfl
         | 1, _ => rfl
         | 2, _ => rfl
         | 3, _ => rfl
       · rw [ex1]
         dsimp only
         rw [innerAt_at _ _ h8 4 (Nat.le_refl _), if_neg (by omega)]
   · obtain rfl : i = 60 := by omega
     exact .inl ⟨m, ⟨by omega, by omega, by rw [if_neg (by omega)]⟩, hm⟩
 obtain ⟨m60, hm60, hW⟩ := l2
 refine ⟨m60, x, uR x 256, ⟨by omega, true, by rw [if_pos (by omega), if_pos (by omega), if_neg (by omega)], fun _ => ⟨x, hb, uR x 256, ?_, m8, hm8, m60, by rw [e8]; exact hm60, rfl⟩⟩, hW.1, fun s hs q hq => ?_, hx, uR_at hx⟩
 · refine Iter.count (fun a => (a, uR x a)) 256 (fun a ha => ?_) ?_
   · unfold letheref04_New_l0; dsimp only; rw [if_pos ha, uR]
   · unfold letheref04_New_l0; dsimp only; rw [if_neg (by omega)]
 · rw [hW.2 s hs q hq]
   unfold keyF expF kAt
   rw [if_pos (by omega)]
section
variable {key : List Byte} {W : List (Nat → Byte)} {x u : Nat → Byte}
theorem refrounds_ok (h : RC key W x u) : letheref04_Cipher_rounds W x u 14 := by
 have := h.len
 refine ⟨by omega, by omega, ?_⟩
 rw [this]; rfl
theorem refadd_ok (h : RC key W x u) (b : F8) {r : Nat} (hr : r < 15) : letheref04_Cipher_add W x u b (r : Int) (addF (keyF key) r b) := by
 refine ⟨addF (keyF key) r b, ?_, rfl⟩
 refine Iter.count (fun i => (i, addAt (keyF key) r b i)) 16 (fun i hi => ?_) ?_
 · unfold letheref04_Cipher_add_l0; dsimp only
   have hl := h.len
   have e : (4 * (r : Int) + ((i / 4 : Nat) : Int)).toNat = 4 * r + i / 4 := by omega
   rw [if_pos hi, e, hl]
   refine ⟨by omega, by omega, by omega, ?_⟩
   congr 2
   rw [h.at_ _ (by omega) _ (by omega)]
   have e2 : (4 * r + i / 4) * 4 + i % 4 = r * 16 + i := by omega
   rw [e2]
   funext q
   rw [upd_at]
   unfold addAt
   by_cases hq : q = i
   · subst hq; rw [if_pos rfl, if_pos (by omega), if_neg (by omega)]
   · rw [if_neg hq]
     by_cases h2 : q < i
     · rw [if_pos h2, if_pos (by omega)]
     · rw [if_neg h2, if_neg (by omega)]
 · unfold letheref04_Cipher_add_l0; dsimp only; rw [if_neg (by omega)]; rfl
def turnF (b : F8) (n : Nat) (k : Nat) : F8 := fun q => if q < k then b (q % 4 + 4 * ((q / 4 + q % 4 * n) % 4)) else 0#8
theorem turnF_succ (b : F8) (n : Nat) {k v : Nat} (hv : v = k % 4 + 4 * ((k / 4 + k % 4 * n) % 4)) : upd (turnF b n k) k (b v) = turnF b n (k + 1) := by
 subst hv
 funext q
 rw [upd_at]
 unfold turnF
 by_cases hq : q = k
 · subst hq; rw [if_pos rfl, if_pos (by omega)]
 · rw [if_neg hq]
   by_cases h2 : q < k
   · rw [if_pos h2, if_pos (by omega)]
   · rw [if_neg h2, if_neg (by omega)]
theorem refturned_ok (b : F8) {n : Nat} (hn : n < 100) : letheref04_turned b (n : Int) (turnF b n 16) := by
 have e0 : (fun _ => 0#8) = turnF b n 0 := by funext q; unfold turnF; rw [if_neg (by omega)]
 refine ⟨turnF b n 16, ?_, rfl⟩
 rw [e0]
 refine Iter.count (fun c => (c, turnF b n (4 * c))) 4 (fun c hc => ?_) ?_
 · unfold letheref04_turned_l0; dsimp only
   rw [if_pos hc]
   refine ⟨turnF b n (4 * (c + 1)), ?_, rfl⟩
   refine Iter.count (fun r => (r, turnF b n (4 * c + r))) 4 (fun r hr => ?_) ?_
   · unfold letheref04_turned_l1; dsimp only
     have e1 : ((r : Nat) : Int) * (n : Int) = ((r * n : Nat) : Int) := by rw [Int.natCast_mul]
     have hrn : r * n ≤ 3 * 100 := Nat.mul_le_mul (by omega) (by omega)
     have e2 : (((c : Nat) : Int) + ((r * n : Nat) : Int)).tmod 4 = (((c + r * n) % 4 : Nat) : Int) := by rw [Int.tmod_eq_emod_of_nonneg (by omega)]; omega
     rw [if_pos hr, e1, e2]
     have e3 : (((r : Nat) : Int) + 4 * (((c + r * n) % 4 : Nat) : Int)).toNat = r + 4 * ((c + r * n) % 4) := by omega
     rw [e3, Nat.add_comm r (4 * c)]
     refine ⟨by omega, by omega, by omega, ?_⟩
     rw [turnF_succ b n (k := 4 * c + r)]
     · rfl
     · have a1 : (4 * c + r) % 4 = r := by omega
       have a2 : (4 * c + r) / 4 = c := by omega
       rw [a1, a2]
   · unfold letheref04_turned_l1; dsimp only; rw [if_neg (by omega)]; rfl
 · unfold letheref04_turned_l0; dsimp only; rw [if_neg (by omega)]
def mixR (b : F8) (k : Nat) : F8 := fun q => if q < k then ((mul8 2#8 (b (4 * (q / 4) + q % 4)) ^^^ mul8 3#8 (b (4 * (q / 4) + (q % 4 + 1) % 4))) ^^^ b (4 * (q / 4) + (q % 4 + 2) % 4)) ^^^ b (4 * (q / 4) + (q % 4 + 3) % 4) else 0#8
theorem refmixed_ok (b : F8) : letheref04_mixed b (mixR b 16) := by
 have e0 : (fun _ => 0#8) = mixR b 0 := by funext q; unfold mixR; rw [if_neg (by omega)]
 refine ⟨mixR b 16, ?_, rfl⟩
 rw [e0]
 refine Iter.count (fun c => (c, mixR b (4 * c))) 4 (fun c hc => ?_) ?_
 · unfold letheref04_mixed_l0; dsimp only
   rw [if_pos hc]
   refine ⟨mixR b (4 * (c + 1)), ?_, rfl⟩
   refine Iter.count (fun r => (r, mixR b (4 * c + r))) 4 (fun r hr => ?_) ?_
   · unfold letheref04_mixed_l1; dsimp only
     rw [if_pos hr]
     refine ⟨_, refmul_ok _ _, _, refmul_ok _ _, ?_⟩
     congr 2
     funext q
     rw [upd_at]
     unfold mixR
     by_cases hq : q = 4 * c + r
     · have a1 : q % 4 = r := by omega
       have a2 : q / 4 = c := by omega
       rw [if_pos hq, if_pos (by omega), a1, a2]
     · rw [if_neg hq]
       by_cases h2 : q < 4 * c + r
       · rw [if_pos h2, if_pos (by omega)]
       · rw [if_neg h2, if_neg (by omega)]
   · unfold letheref04_mixed_l1; dsimp only; rw [if_neg (by omega)]; rfl
 · unfold letheref04_mixed_l0; dsimp only; rw [if_neg (by omega)]
theorem mix_same (b : F8) : E16 (mixR b 16) (mixF twoF b) := by
 have h2 : ∀ v : Byte, mul8 2#8 v = xt v := by decide +kernel
 have h3 : ∀ v : Byte, mul8 3#8 v = xt v ^^^ v := by decide +kernel
 refine E16.cols fun c i hc hi => ?_
 rw [mixF_at _ _ hc hi, show colv twoF i (b (4 * c)) (b (4 * c + 1)) (b (4 * c + 2)) (b (4 * c + 3)) = colT i (b (4 * c)) (b (4 * c + 1)) (b (4 * c + 2)) (b (4 * c + 3)) from rfl, colT_X]
 unfold mixR
 have a1 : (4 * c + i) % 4 = i := by omega
 have a2 : (4 * c + i) / 4 = c := by omega
 rw [if_pos (by omega), a1, a2, h2, h3]
 generalize hw : b (4 * c) = w
 generalize hx : b (4 * c + 1) = x
 generalize hy : b (4 * c + 2) = y
 generalize hz : b (4 * c + 3) = z
 match i, hi with
 | 0, _ => simp only [Nat.add_zero, Nat.zero_add, Nat.reduceMod, hw, hx, hy, hz, colX, xt_add w x]; generalize xt w = W; generalize xt x = X; simp only [BitVec.xor_assoc, BitVec.xor_comm, xlc, xsc]
 | 1, _ => simp only [Nat.reduceAdd, Nat.reduceMod, Nat.add_zero, hw, hx, hy, hz, colX, xt_add x y]; generalize xt x = W; generalize xt y = X; simp only [BitVec.xor_assoc, BitVec.xor_comm, xlc, xsc]
 | 2, _ => simp only [Nat.reduceAdd, Nat.reduceMod, Nat.add_zero, hw, hx, hy, hz, colX, xt_add y z]; generalize xt y = W; generalize xt z = X; simp only [BitVec.xor_assoc, BitVec.xor_comm, xlc, xsc]
 | 3, _ => simp only [Nat.reduceAdd, Nat.reduceMod, Nat.add_zero, hw, hx, hy, hz, colX, xt_add z w]; generalize xt z = W; generalize xt w = X; simp only [BitVec.xor_assoc, BitVec.xor_comm, xlc, xsc]
def sbx (x : Nat → Byte) (m : F8) (k : Nat) : F8 := fun q => if q < k then x (m q).toNat else m q
theorem sbx_succ (x : Nat → Byte) (m : F8) (k : Nat) : upd (sbx x m k) k (x (sbx x m k k).toNat) = sbx x m (k + 1) := by
 funext q
 rw [upd_at]
 unfold sbx
 by_cases hq : q = k
 · subst hq; rw [if_pos rfl, if_neg (by omega), if_pos (by omega)]
 · rw [if_neg hq]
   by_cases h2 : q < k
   · rw [if_pos h2, if_pos (by omega)]
   · rw [if_neg h2, if_neg (by omega)]
theorem turn_sh (hx : ∀ v : Byte, x v.toNat = sb v) (m : F8) : turnF (sbx x m 16) 1 16 = shF boxF m := by
 have h : ∀ q, q < 16 → q % 4 + 4 * ((q / 4 + q % 4 * 1) % 4) = (q + 4 * (q % 4)) % 16 := by decide
 funext q
 unfold turnF shF shAt
 by_cases hq : q < 16
 · rw [if_pos hq, if_pos hq, h q hq]
   unfold sbx
   rw [if_pos (Nat.mod_lt _ (by omega)), hx, box_at]
 · rw [if_neg hq, if_neg hq]
theorem refenc_ok (h : RC key W x u) (b : F8) : ∃ y, letheref04_Cipher_Encrypt W x u b y ∧ E16 y (encF (keyF key) boxF twoF b) := by
 have key0 : ∃ y, Iter (letheref04_Cipher_Encrypt_l0 W x u) (1, addF (keyF key) 0 b) y ∧ E16 y (encF (keyF key) boxF twoF b) := by
   refine iter_ga (step := letheref04_Cipher_Encrypt_l0 W x u) (fun s : Nat × F8 => 1 ≤ s.1 ∧ s.1 ≤ 15 ∧ E16 s.2 (encAt (keyF key) boxF twoF b (s.1 - 1))) (fun y => E16 y (encF (keyF key) boxF twoF b)) (fun s => 15 - s.1) ?_ 15 (1, addF (keyF key) 0 b) (by dsimp only; omega) ⟨by dsimp only; omega, by dsimp only; omega, E16.rfl'⟩
   rintro ⟨r, m⟩ ⟨h1, h15, hm⟩
   dsimp only at h1 h15 hm ⊢
   unfold letheref04_Cipher_Encrypt_l0; dsimp only
   obtain ⟨i, rfl⟩ : ∃ i, r = i + 1 := ⟨r - 1, by omega⟩
   rw [Nat.add_sub_cancel] at hm
   by_cases hr : i < 14
   · have hsh : E16 (shF boxF m) (shF boxF (encAt (keyF key) boxF twoF b i)) := shF_E hm
     have ht := refturned_ok (sbx x m 16) (n := 1) (by omega)
     rw [turn_sh h.box] at ht
     have hit : Iter (letheref04_Cipher_Encrypt_l1 x) (0, m) (sbx x m 16) := by
       have e0 : m = sbx x m 0 := by funext q; unfold sbx; rw [if_neg (by omega)]
       conv => arg 2; rw [e0]
       refine Iter.count (fun k => (k, sbx x m k)) 16 (fun k hk => ?_) ?_
       · unfold letheref04_Cipher_Encrypt_l1; dsimp only; rw [if_pos hk, sbx_succ]
       · unfold letheref04_Cipher_Encrypt_l1; dsimp only; rw [if_neg (by omega)]
     by_cases h13 : i + 1 < 14
     · refine .inr ⟨(i + 2, addF (keyF key) (i + 1) (mixR (shF boxF m) 16)), ⟨14, refrounds_ok h, ?_⟩, ⟨by dsimp only; omega, by dsimp only; omega, ?_⟩, by dsimp only; omega⟩
       · rw [if_pos (by omega)]
         refine ⟨_, hit, _, ht, _, ⟨14, refrounds_ok h, ?_⟩, _, refadd_ok h _ (r := i + 1) (by omega), by omega, rfl⟩
         rw [if_pos (by omega)]
         exact ⟨_, refmixed_ok _, rfl⟩
       · show E16 _ (encAt (keyF key) boxF twoF b (i + 1))
         unfold encAt
         rw [if_pos h13]
         exact addF_E ((mix_same _).trans (mixF_E hsh))
     · refine .inr ⟨(i + 2, addF (keyF key) (i + 1) (shF boxF m)), ⟨14, refrounds_ok h, ?_⟩, ⟨by dsimp only; omega, by dsimp only; omega, ?_⟩, by dsimp only; omega⟩
       · rw [if_pos (by omega)]
         refine ⟨_, hit, _, ht, _, ⟨14, refrounds_ok h, ?_⟩, _, refadd_ok h _ (r := i + 1) (by omega), by omega, rfl⟩
         rw [if_neg (by omega)]
       · show E16 _ (encAt (keyF key) boxF twoF b (i + 1))
         unfold encAt
         rw [if_neg h13]
         exact addF_E hsh
   · obtain rfl : i = 14 := by omega
     exact .inl ⟨m, ⟨14, refrounds_ok h, by rw [if_neg (by omega)]⟩, hm⟩
 obtain ⟨y, hy, he⟩ := key0
 exact ⟨y, ⟨_, refadd_ok h b (r := 0) (by omega), y, hy, rfl⟩, he⟩
theorem nxAt_c (s : F8) (n : BitVec 64) : ∀ i, (nxAt s n i).2.1.toNat ≤ 1
 | 0 => by show (0#64).toNat ≤ 1; decide
 | i + 1 => by
   have h := nxAt_c s n i
   unfold nxAt
   dsimp only
   generalize (nxAt s n i).2.1 = c at h
   generalize (nxAt s n i).2.2 (15 - i) = b
   generalize (nxAt s n i).1 = m
   have hb : (b.setWidth 64).toNat = b.toNat := by rw [BitVec.toNat_setWidth]; have := b.isLt; omega
   have hm : (m &&& 255#64).toNat = m.toNat % 256 := by
     rw [BitVec.toNat_and, show (255#64 : BitVec 64).toNat = 2 ^ 8 - 1 from rfl, Nat.and_two_pow_sub_one_eq_mod]
   rw [BitVec.toNat_ushiftRight, Nat.shiftRight_eq_div_pow, BitVec.toNat_add, BitVec.toNat_add, hb, hm]
   have := b.isLt
   omega
theorem refnext_ok (s : F8) (n : BitVec 64) : letheref04_Next s n (nextF s n) := by
 refine ⟨nextF s n, ?_, rfl⟩
 refine Iter.count (fun i => ((nxAt s n i).1, (nxAt s n i).2.1.toNat, (15 : Int) - i, (nxAt s n i).2.2)) 16 (fun i hi => ?_) ?_
 · unfold letheref04_Next_l0; dsimp only
   have hc := nxAt_c s n i
   have e1 : ((15 : Int) - i).toNat = 15 - i := by omega
   have e3 : (15 : Int) - ((i + 1 : Nat) : Int) = 15 - (i : Int) - 1 := by omega
   rw [if_pos (by omega), e1, nxAt, e3]
   dsimp only
   generalize (nxAt s n i).2.1 = c at hc
   generalize hbb : (nxAt s n i).2.2 (15 - i) = b
   generalize (nxAt s n i).1 = m
   have hb : (b.setWidth 64).toNat = b.toNat := by rw [BitVec.toNat_setWidth]; have := b.isLt; omega
   have hm : (m &&& 255#64).toNat = m.toNat % 256 := by
     rw [BitVec.toNat_and, show (255#64 : BitVec 64).toNat = 2 ^ 8 - 1 from rfl, Nat.and_two_pow_sub_one_eq_mod]
   have hm2 : (m % 256#64).toNat = m.toNat % 256 := by rw [BitVec.toNat_umod]; rfl
   have hbl := b.isLt
   have hs : (b.setWidth 64 + (m &&& 255#64) + c).toNat = b.toNat + m.toNat % 256 + c.toNat := by
     rw [BitVec.toNat_add, BitVec.toNat_add, hb, hm]; omega
   rw [hm2]
   refine ⟨by omega, by omega, by omega, by omega, by omega, by omega, by omega, ?_⟩
   have d1 : m >>> 8 = m / 256#64 := by
     apply BitVec.eq_of_toNat_eq
     rw [BitVec.toNat_ushiftRight, Nat.shiftRight_eq_div_pow, BitVec.toNat_udiv]; rfl
   have d2 : ((b.setWidth 64 + (m &&& 255#64) + c) >>> 8).toNat = (b.toNat + m.toNat % 256 + c.toNat) / 256 := by
     rw [BitVec.toNat_ushiftRight, Nat.shiftRight_eq_div_pow, hs]
   have d3 : (b.setWidth 64 + (m &&& 255#64) + c).setWidth 8 = BitVec.ofNat 8 ((b.toNat + m.toNat % 256 + c.toNat) % 256) := by
     apply BitVec.eq_of_toNat_eq
     rw [BitVec.toNat_setWidth, hs, BitVec.toNat_ofNat]; omega
   rw [d1, d2, d3]
 · unfold letheref04_Next_l0; dsimp only; rw [if_neg (by omega)]; rfl
theorem refstream_ok (h : RC key W x u) (first : F8) {n : Nat} (hn : n ≤ 140737488355328) : ∃ y, letheref04_Cipher_Stream W x u first (n : Int) y ∧ y.length = n ∧ ∀ q, q < n → lit y q = encF (keyF key) boxF twoF (ctr first (q / 16)) (q % 16) := by
 have key0 : ∃ y, Iter (letheref04_Cipher_Stream_l0 W x u (n : Int)) ([], first) y ∧ y.length = n ∧ ∀ q, q < n → lit y q = encF (keyF key) boxF twoF (ctr first (q / 16)) (q % 16) := by
   refine iter_ga (step := letheref04_Cipher_Stream_l0 W x u (n : Int)) (fun s : List Byte × F8 => s.1.length ≤ n ∧ (∃ i, s.2 = ctr first i ∧ (s.1.length = 16 * i ∨ s.1.length = n)) ∧ ∀ q, q < s.1.length → lit s.1 q = encF (keyF key) boxF twoF (ctr first (q / 16)) (q % 16)) _ (fun s => n - s.1.length) ?_ (n + 1) ([], first) (by dsimp only; omega) ⟨Nat.zero_le _, ⟨0, rfl, .inl rfl⟩, fun q hq => absurd hq (Nat.not_lt_zero _)⟩
   rintro ⟨out, m⟩ ⟨hle, ⟨i, rfl, hi⟩, hat⟩
   dsimp only at hle hi hat ⊢
   unfold letheref04_Cipher_Stream_l0; dsimp only
   by_cases hlt : out.length < n
   · have hi : out.length = 16 * i := hi.resolve_right (by omega)
     obtain ⟨y, hy, he⟩ := refenc_ok h (ctr first i)
     have inner : Iter (letheref04_Cipher_Stream_l1 (n : Int) y) (out, 0) (out ++ (List.range (min 16 (n - out.length))).map y) := by
       have e0 : out = out ++ (List.range 0).map y := by simp
       conv => arg 2; rw [e0]
       refine Iter.count (fun k => (out ++ (List.range k).map y, k)) (min 16 (n - out.length)) (fun k hk => ?_) ?_
       · unfold letheref04_Cipher_Stream_l1; dsimp only
         rw [if_pos (by omega), if_pos (by rw [List.length_append, List.length_map, List.length_range]; omega), List.range_succ, List.map_append, ← List.append_assoc]
         exact ⟨by rw [List.length_append, List.length_map, List.length_range, List.length_singleton]; omega, rfl⟩
       · unfold letheref04_Cipher_Stream_l1; dsimp only
         by_cases h16 : min 16 (n - out.length) < 16
         · rw [if_pos h16, if_neg (by rw [List.length_append, List.length_map, List.length_range]; omega)]
         · rw [if_neg h16]
     refine .inr ⟨(_, _), by rw [if_pos (by omega)]; exact ⟨y, hy, _, inner, _, refnext_ok _ _, rfl⟩, ⟨?_, ⟨i + 1, rfl, ?_⟩, fun q hq => ?_⟩, ?_⟩
     · dsimp only; rw [List.length_append, List.length_map, List.length_range]; omega
     · dsimp only; rw [List.length_append, List.length_map, List.length_range]; omega
     · dsimp only at hq ⊢
       rw [List.length_append, List.length_map, List.length_range] at hq
       by_cases hq2 : q < out.length
       · rw [← hat q hq2]
         unfold lit
         rw [List.getD_eq_getElem?_getD, List.getElem?_append_left hq2, ← List.getD_eq_getElem?_getD]
       · have e1 : q / 16 = i := by omega
         have e2 : q % 16 = q - out.length := by omega
         rw [e1, e2, ← he _ (by omega)]
         unfold lit
         rw [List.getD_eq_getElem?_getD, List.getElem?_append_right (by omega), List.getElem?_map, List.getElem?_range (by omega)]; rfl
     · dsimp only; rw [List.length_append, List.length_map, List.length_range]; omega
   · have e : out.length = n := by omega
     exact .inl ⟨out, by rw [if_neg (by omega)], e, fun q hq => hat q (by omega)⟩
 obtain ⟨y, h1, h2, h3⟩ := key0
 exact ⟨y, ⟨y, h1, rfl⟩, h2, h3⟩
theorem refhide_ok (h : RC key W x u) (first : F8) {data : List Byte} (hn : data.length ≤ 140737488355328) : letheref04_Cipher_Hide W x u first data (strF (keyF key) boxF twoF first data) := by
 obtain ⟨y, hy, hl, hat⟩ := refstream_ok h first hn
 have hit : ∃ z, Iter (letheref04_Cipher_Hide_l0 data y) (y, 0) z ∧ z.length = y.length ∧ ∀ q, q < y.length → lit z q = lit y q ^^^ lit data q := by
   refine iter_ga (step := letheref04_Cipher_Hide_l0 data y) (fun s : List Byte × Nat => s.2 ≤ y.length ∧ s.1.length = y.length ∧ ∀ q, q < y.length → lit s.1 q = if q < s.2 then lit y q ^^^ lit data q else lit y q) _ (fun s => y.length - s.2) ?_ (y.length + 1) (y, 0) (by dsimp only; omega) ⟨Nat.zero_le _, rfl, fun q _ => by rw [if_neg (by dsimp only; omega)]⟩
   rintro ⟨z, i⟩ ⟨hi, hz, ha⟩
   dsimp only at hi hz ha ⊢
   unfold letheref04_Cipher_Hide_l0; dsimp only
   by_cases hlt : i < y.length
   · refine .inr ⟨(_, i + 1), by rw [if_pos hlt]; exact ⟨hlt, by omega, hlt, by omega, rfl⟩, ⟨by dsimp only; omega, by dsimp only; rw [List.length_set]; exact hz, fun q hq => ?_⟩, by dsimp only; omega⟩
     dsimp only
     rw [lit_set (by omega)]
     by_cases h1 : q = i
     · subst h1; rw [if_pos rfl, if_pos (by omega), ha q hq, if_neg (by omega)]
     · rw [if_neg h1, ha q hq]
       by_cases h2 : q < i
       · rw [if_pos h2, if_pos (by omega)]
       · rw [if_neg h2, if_neg (by omega)]
   · exact .inl ⟨z, by rw [if_neg hlt], hz, fun q hq => by rw [ha q hq, if_pos (by omega)]⟩
 obtain ⟨z, hz, hzl, hza⟩ := hit
 have e : z = strF (keyF key) boxF twoF first data := by
   refine list_ext (by rw [hzl, hl, strF_length]) fun q hq => ?_
   rw [hza q (by omega), hat q (by omega), strF_at _ _ _ _ _ (by omega), BitVec.xor_comm]
 rw [← e]
 exact ⟨y, hy, z, hz, rfl⟩
end
end Go.Proofs.Ythjkmhdgenmnoaa
namespace Go.Proofs.Ythjkmhdgenmnoaa
set_option linter.unusedSimpArgs false
set_option linter.unusedVariables false
set_option linter.unusedSectionVars false
open Go Go.LW
set_option maxRecDepth 10000
theorem inv_uniq {a x : BitVec 8} (h0 : a ≠ 0#8) (h : mul8 a x = 1#8) : x = inv8 a := by
 have h1 : mul8 (inv8 a) (mul8 a x) = mul8 (mul8 (inv8 a) a) x := mul_assoc8 _ _ _
 rw [h, mul_comm8 (inv8 a) a, mul_inv8 a h0, mul_one8, mul_comm8 1#8 x, mul_one8] at h1
 exact h1.symm
theorem refinv_ok (a : Byte) : letheref04_Inv a (inv8 a) := by
 by_cases h0 : a = 0#8
 · subst h0
   refine ⟨some (), ?_, fun _ => by decide⟩
   refine Iter.count (fun i => i + 1) 255 (fun i hi => ?_) ?_
   · unfold letheref04_Inv_l0
     rw [if_pos (by omega)]
     refine ⟨_, refmul_ok _ _, ?_⟩
     rw [mul_zero8, if_neg (by decide)]
   · unfold letheref04_Inv_l0; rw [if_neg (by omega)]
 · have hi0 : inv8 a ≠ 0#8 := fun h => by
     have := mul_inv8 a h0
     rw [h, mul_comm8, mul_zero8] at this
     exact absurd this (by decide)
   have hpos : 0 < (inv8 a).toNat := by
     rcases Nat.eq_zero_or_pos (inv8 a).toNat with h | h
     · exact absurd (BitVec.eq_of_toNat_eq (by rw [h]; rfl)) hi0
     · exact h
   have hlt := (inv8 a).isLt
   refine ⟨none, ?_, fun h => by cases h⟩
   refine Iter.count (fun i => i + 1) ((inv8 a).toNat - 1) (fun i hi => ?_) ?_
   · unfold letheref04_Inv_l0
     rw [if_pos (by omega)]
     refine ⟨_, refmul_ok _ _, ?_⟩
     rw [if_neg (fun h => by
       have h1 := inv_uniq h0 h
       have h2 : (inv8 a).toNat = i + 1 := by rw [← h1, BitVec.toNat_ofNat]; omega
       omega)]
   · unfold letheref04_Inv_l0
     have e : BitVec.ofNat 8 ((inv8 a).toNat - 1 + 1) = inv8 a := by rw [Nat.sub_add_cancel hpos, BitVec.ofNat_toNat, BitVec.setWidth_eq]
     rw [if_pos (by omega), e]
     exact ⟨_, refmul_ok _ _, by rw [if_pos (mul_inv8 a h0)]; exact ⟨rfl, rfl⟩⟩
def bitR (x : Byte) (i : Nat) : Nat → Nat
 | 0 => (99 / 2 ^ i) &&& 1
 | t + 1 => bitR x i t ^^^ ((x >>> ((((i : Nat) : Int) + (([0, 4, 5, 6, 7] : List Int).getD t 0)).tmod 8).toNat) &&& 1#8).toNat
def outR (x : Byte) : Nat → Byte
 | 0 => 0#8
 | i + 1 => outR x i ||| BitVec.ofNat 8 (bitR x i 5 * 2 ^ i)
theorem and1_lt (x : Byte) : (x &&& 1#8).toNat < 2 ^ 1 := by
 rw [BitVec.toNat_and]
 exact Nat.lt_of_le_of_lt Nat.and_le_right (by decide)
theorem bitR_lt (x : Byte) (i : Nat) : ∀ t, bitR x i t < 2 ^ 1
 | 0 => by
   unfold bitR
   exact Nat.lt_of_le_of_lt Nat.and_le_right (by decide)
 | t + 1 => by
   unfold bitR
   exact Nat.xor_lt_two_pow (bitR_lt x i t) (and1_lt _)
theorem list5 {t : Nat} (h : t < 5) : 0 ≤ ([0, 4, 5, 6, 7] : List Int).getD t 0 ∧ ([0, 4, 5, 6, 7] : List Int).getD t 0 ≤ 7 := by
 match t, h with
 | 0, _ => decide
 | 1, _ => decide
 | 2, _ => decide
 | 3, _ => decide
 | 4, _ => decide
theorem outR_sb : ∀ a : Byte, outR (inv8 a) 8 = sb a := by decide +kernel
theorem refbox1_ok (a : Byte) : letheref04_Box a (sb a) := by
 rw [← outR_sb]
 refine ⟨_, refinv_ok a, outR (inv8 a) 8, ?_, rfl⟩
 generalize inv8 a = x
 refine Iter.count (fun i => (outR x i, i)) 8 (fun i hi => ?_) ?_
 · unfold letheref04_Box_l0; dsimp only
   have hb := bitR_lt x i 5
   have h3 : 2 ^ i ≤ 2 ^ 7 := Nat.pow_le_pow_right (by omega) (by omega)
   have h2 : bitR x i 5 * 2 ^ i ≤ 1 * 2 ^ 7 := Nat.mul_le_mul (by omega) h3
   rw [if_pos hi]
   refine ⟨bitR x i 5, ?_, ⟨by omega, by omega⟩, rfl⟩
   refine Iter.count (fun t => (bitR x i t, t)) 5 (fun t ht => ?_) ?_
   · unfold letheref04_Box_l1; dsimp only
     have hl := list5 ht
     have hx := bitR_lt x i t
     have ha := and1_lt (x >>> ((((i : Nat) : Int) + (([0, 4, 5, 6, 7] : List Int).getD t 0)).tmod 8).toNat)
     have ht0 : 0 ≤ (((i : Nat) : Int) + (([0, 4, 5, 6, 7] : List Int).getD t 0)).tmod 8 := by rw [Int.tmod_eq_emod_of_nonneg (by omega)]; omega
     rw [if_pos ht]
     exact ⟨by omega, ht0, by omega, rfl⟩
   · unfold letheref04_Box_l1; dsimp only; rw [if_neg (by omega)]
 · unfold letheref04_Box_l0; dsimp only; rw [if_neg (by omega)]
theorem refunbox_ok (a : Byte) : letheref04_Unbox a (isb a) := by
 obtain ⟨x, hb, hx⟩ := refbox_ok
 have hxn : ∀ i, i < 256 → x i = sb (BitVec.ofNat 8 i) := fun i hi => by
   have := hx (BitVec.ofNat 8 i)
   rwa [BitVec.toNat_ofNat, Nat.mod_eq_of_lt (by omega)] at this
 have hlt := (isb a).isLt
 refine ⟨x, hb, none, ?_, fun h => by cases h⟩
 refine Iter.count (fun i => i) (isb a).toNat (fun i hi => ?_) ?_
 · unfold letheref04_Unbox_l0
   rw [if_pos (by omega), hxn i (by omega), if_neg (fun h => by
     have h1 : isb (sb (BitVec.ofNat 8 i)) = isb a := by rw [h]
     rw [isb_sb] at h1
     have h2 : (isb a).toNat = i := by rw [← h1, BitVec.toNat_ofNat]; omega
     omega)]
 · unfold letheref04_Unbox_l0
   rw [if_pos (by omega), hx, sb_isb, if_pos rfl, BitVec.ofNat_toNat, BitVec.setWidth_eq]
   exact ⟨rfl, rfl⟩
section
variable {key : List Byte} {W : List (Nat → Byte)} {x u : Nat → Byte}
theorem turn_ush (hu : ∀ v : Byte, u v.toNat = isb v) (m : F8) : E16 (sbx u (turnF m 3 16) 16) (ushF backF m) := fun q hq => by
 have h : ∀ q, q < 16 → q % 4 + 4 * ((q / 4 + q % 4 * 3) % 4) = pi16 q := by decide
 rw [ushF_at _ _ hq, back_at, ← hu, ← h q hq]
 unfold sbx turnF
 rw [if_pos hq, if_pos hq]
theorem refdec_ok (h : RC key W x u) (b : F8) : ∃ y, letheref04_Cipher_Decrypt W x u b y ∧ E16 y (decF (keyF key) backF twoF b) := by
 have key0 : ∃ y, Iter (letheref04_Cipher_Decrypt_l0 W x u) (14, b) y ∧ E16 y (decAt (keyF key) backF twoF b 14) := by
   refine iter_ga (step := letheref04_Cipher_Decrypt_l0 W x u) (fun s : Int × F8 => 0 ≤ s.1 ∧ s.1 ≤ 14 ∧ E16 s.2 (decAt (keyF key) backF twoF b (14 - s.1.toNat))) (fun y => E16 y (decAt (keyF key) backF twoF b 14)) (fun s => s.1.toNat) ?_ 15 (14, b) (by dsimp only; omega) ⟨by dsimp only; omega, by dsimp only; omega, E16.rfl'⟩
   rintro ⟨r, m⟩ ⟨h0, h14, hm⟩
   dsimp only at h0 h14 hm ⊢
   obtain ⟨n, rfl⟩ := Int.eq_ofNat_of_zero_le h0
   rw [Int.toNat_natCast] at hm
   unfold letheref04_Cipher_Decrypt_l0; dsimp only
   by_cases hr : 1 ≤ n
   · have ea : 14 - (n - 1) = (14 - n) + 1 := by omega
     have er : 14 - (14 - n) = n := by omega
     have hadd : E16 (addF (keyF key) n m) (addF (keyF key) n (decAt (keyF key) backF twoF b (14 - n))) := addF_E hm
     have tail : ∀ (z z' : F8), E16 z z' → (decAt (keyF key) backF twoF b (14 - (n - 1)) = ushF backF z') → E16 (sbx u (turnF z 3 16) 16) (decAt (keyF key) backF twoF b (14 - (n - 1))) := fun z z' hz he => by
       rw [he]
       exact (turn_ush h.unb z).trans (ushF_E hz)
     have hit : ∀ z : F8, Iter (letheref04_Cipher_Decrypt_l1 u) (0, z) (sbx u z 16) := fun z => by
       have e0 : z = sbx u z 0 := by funext q; unfold sbx; rw [if_neg (by omega)]
       conv => arg 2; rw [e0]
       refine Iter.count (fun k => (k, sbx u z k)) 16 (fun k hk => ?_) ?_
       · unfold letheref04_Cipher_Decrypt_l1; dsimp only; rw [if_pos hk, sbx_succ]
       · unfold letheref04_Cipher_Decrypt_l1; dsimp only; rw [if_neg (by omega)]
     have e1 : ((n : Int) - 1) = ((n - 1 : Nat) : Int) := by omega
     by_cases hn : n < 14
     · have hmx : E16 (mixR (mixR (mixR (addF (keyF key) n m) 16) 16) 16) (mixF twoF (mixF twoF (mixF twoF (addF (keyF key) n (decAt (keyF key) backF twoF b (14 - n)))))) :=
         (mix_same _).trans (mixF_E ((mix_same _).trans (mixF_E ((mix_same _).trans (mixF_E hadd)))))
       refine .inr ⟨((n : Int) - 1, sbx u (turnF (mixR (mixR (mixR (addF (keyF key) n m) 16) 16) 16) 3 16) 16), ?_, ⟨by dsimp only; omega, by dsimp only; omega, ?_⟩, by dsimp only; omega⟩
       · rw [if_pos (by omega)]
         refine ⟨_, refadd_ok h m (by omega), _, ⟨14, refrounds_ok h, ?_⟩, _, refturned_ok _ (n := 3) (by omega), _, hit _, by omega, rfl⟩
         rw [if_pos (by omega)]
         exact ⟨_, refmixed_ok _, _, refmixed_ok _, _, refmixed_ok _, rfl⟩
       · dsimp only
         rw [e1, Int.toNat_natCast]
         refine tail _ _ hmx ?_
         rw [ea, decAt, er, if_pos hn]
     · refine .inr ⟨((n : Int) - 1, sbx u (turnF (addF (keyF key) n m) 3 16) 16), ?_, ⟨by dsimp only; omega, by dsimp only; omega, ?_⟩, by dsimp only; omega⟩
       · rw [if_pos (by omega)]
         refine ⟨_, refadd_ok h m (by omega), _, ⟨14, refrounds_ok h, ?_⟩, _, refturned_ok _ (n := 3) (by omega), _, hit _, by omega, rfl⟩
         rw [if_neg (by omega)]
       · dsimp only
         rw [e1, Int.toNat_natCast]
         refine tail _ _ hadd ?_
         rw [ea, decAt, er, if_neg hn]
   · obtain rfl : n = 0 := by omega
     exact .inl ⟨m, by rw [if_neg (by omega)], hm⟩
 obtain ⟨y, hy, he⟩ := key0
 exact ⟨_, ⟨14, refrounds_ok h, y, hy, _, refadd_ok h y (r := 0) (by omega), rfl⟩, addF_E he⟩
end
end Go.Proofs.Ythjkmhdgenmnoaa
