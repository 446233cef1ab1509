/-
  PLAIN LAW, AES PART 3 (own work): what Encrypt and Decrypt make, as functions; they undo each other.
-/
import Derived.Test.YthjkmhdgenmnoaaDoorPAes2
namespace Go.Proofs.YthjkmhdgenmnoaaDoor
set_option linter.unusedSimpArgs false
set_option linter.unusedVariables false
set_option linter.unusedSectionVars false
open Go Go.LW

abbrev F8 := Nat → BitVec 8
/-- the first 16 are the same -/
def E16 (s s' : F8) : Prop := ∀ q, q < 16 → s q = s' q
theorem E16.rfl' {s : F8} : E16 s s := fun _ _ => rfl
theorem E16.symm {s t : F8} (h : E16 s t) : E16 t s := fun q hq => (h q hq).symm
theorem E16.trans {s t u : F8} (h : E16 s t) (h' : E16 t u) : E16 s u := fun q hq => (h q hq).trans (h' q hq)

/-! ### a round key added -/
def addAt (k : F8) (r : Nat) (s : F8) (n : Nat) : F8 := fun q => if q < n then s q ^^^ k (r * 16 + q) else s q
def addF (k : F8) (r : Nat) (s : F8) : F8 := addAt k r s 16
theorem add_ok (k a b c s : F8) (r : Nat) (hr : r < 15) : aes_Cipher_add k a b c s (r : Int) (addF k r s) := by
  refine ⟨⟨by omega, by omega⟩, addF k r s, ?_, rfl⟩
  refine Iter.count (fun i => (i, addAt k r s i)) 16 (fun i hi => ?_) ?_
  · unfold aes_Cipher_add_l0
    simp only [hi, if_true]
    congr 2
    funext q
    simp only [upd_at, addAt, Int.toNat_natCast]
    by_cases hq : q = i
    · subst hq; simp
    · rw [if_neg hq]
      by_cases h2 : q < i
      · rw [if_pos h2, if_pos (by omega)]
      · rw [if_neg h2, if_neg (by omega)]
  · unfold aes_Cipher_add_l0
    simp only [Nat.lt_irrefl, if_false]
    rfl
theorem addF_at (k : F8) (r : Nat) (s : F8) {q : Nat} (h : q < 16) : addF k r s q = s q ^^^ k (r * 16 + q) := if_pos h
theorem addF_E {k : F8} {r : Nat} {s t : F8} (h : E16 s t) : E16 (addF k r s) (addF k r t) := fun q hq => by rw [addF_at _ _ _ hq, addF_at _ _ _ hq, h q hq]
theorem addF_twice (k : F8) (r : Nat) (s : F8) : E16 (addF k r (addF k r s)) s := fun q hq => by
  rw [addF_at _ _ _ hq, addF_at _ _ _ hq, BitVec.xor_assoc, BitVec.xor_self, BitVec.xor_zero]

/-! ### the columns mixed -/
def colv (two : F8) (i : Nat) (w x y z : BitVec 8) : BitVec 8 :=
  match i with
  | 0 => (w ^^^ (((w ^^^ x) ^^^ y) ^^^ z)) ^^^ two (w ^^^ x).toNat
  | 1 => (x ^^^ (((w ^^^ x) ^^^ y) ^^^ z)) ^^^ two (x ^^^ y).toNat
  | 2 => (y ^^^ (((w ^^^ x) ^^^ y) ^^^ z)) ^^^ two (y ^^^ z).toNat
  | _ => (z ^^^ (((w ^^^ x) ^^^ y) ^^^ z)) ^^^ two (z ^^^ w).toNat
def mixAt (two s : F8) (n : Nat) : F8 := fun q => if q < 4 * n then colv two (q % 4) (s (4 * (q / 4))) (s (4 * (q / 4) + 1)) (s (4 * (q / 4) + 2)) (s (4 * (q / 4) + 3)) else s q
def mixF (two s : F8) : F8 := mixAt two s 4
theorem mix_ok (k a b two s : F8) : aes_Cipher_mix k a b two s (mixF two s) := by
  refine ⟨mixF two s, ?_, rfl⟩
  refine Iter.count (fun i => (4 * i, mixAt two s i)) 4 (fun i hi => ?_) ?_
  · unfold aes_Cipher_mix_l0
    simp only [show 4 * i < 16 by omega, if_true]
    refine ⟨by omega, by omega, by omega, by omega, by omega, by omega, ?_⟩
    have hs : ∀ j, mixAt two s i (4 * i + j) = s (4 * i + j) := fun j => if_neg (by omega)
    have hs0 : mixAt two s i (4 * i) = s (4 * i) := hs 0
    rw [hs0, hs 1, hs 2, hs 3]
    congr 2
    funext q
    simp only [upd_at]
    by_cases h3 : q = 4 * i + 3
    · subst h3
      rw [if_pos rfl]
      have e1 : (4 * i + 3) % 4 = 3 := by omega
      have e2 : (4 * i + 3) / 4 = i := by omega
      simp only [mixAt, e1, e2, show 4 * i + 3 < 4 * (i + 1) by omega, if_true, colv]
    · rw [if_neg h3]
      by_cases h2 : q = 4 * i + 2
      · subst h2
        rw [if_pos rfl]
        have e1 : (4 * i + 2) % 4 = 2 := by omega
        have e2 : (4 * i + 2) / 4 = i := by omega
        simp only [mixAt, e1, e2, show 4 * i + 2 < 4 * (i + 1) by omega, if_true, colv]
      · rw [if_neg h2]
        by_cases h1 : q = 4 * i + 1
        · subst h1
          rw [if_pos rfl]
          have e1 : (4 * i + 1) % 4 = 1 := by omega
          have e2 : (4 * i + 1) / 4 = i := by omega
          simp only [mixAt, e1, e2, show 4 * i + 1 < 4 * (i + 1) by omega, if_true, colv]
        · rw [if_neg h1]
          by_cases h0 : q = 4 * i
          · subst h0
            rw [if_pos rfl]
            have e1 : (4 * i) % 4 = 0 := by omega
            have e2 : (4 * i) / 4 = i := by omega
            simp only [mixAt, e1, e2, show 4 * i < 4 * (i + 1) by omega, if_true, colv]
          · rw [if_neg h0]
            unfold mixAt
            by_cases hq : q < 4 * i
            · rw [if_pos hq, if_pos (by omega)]
            · rw [if_neg hq, if_neg (by omega)]
  · unfold aes_Cipher_mix_l0
    simp only [show ¬ (4 * 4 < 16) by omega, if_false]
    rfl
theorem mixF_at (two s : F8) {c i : Nat} (hc : c < 4) (hi : i < 4) : mixF two s (4 * c + i) = colv two i (s (4 * c)) (s (4 * c + 1)) (s (4 * c + 2)) (s (4 * c + 3)) := by
  unfold mixF mixAt
  rw [if_pos (by omega), show (4 * c + i) % 4 = i by omega, show (4 * c + i) / 4 = c by omega]
theorem E16.cols {s t : F8} (h : ∀ c i, c < 4 → i < 4 → s (4 * c + i) = t (4 * c + i)) : E16 s t := fun q hq => by
  have := h (q / 4) (q % 4) (by omega) (by omega)
  rwa [show 4 * (q / 4) + q % 4 = q by omega] at this
theorem mixF_E {two : F8} {s t : F8} (h : E16 s t) : E16 (mixF two s) (mixF two t) := E16.cols fun c i hc hi => by
  rw [mixF_at _ _ hc hi, mixF_at _ _ hc hi, h (4 * c) (by omega), h (4 * c + 1) (by omega), h (4 * c + 2) (by omega), h (4 * c + 3) (by omega)]
def colT (i : Nat) (w x y z : BitVec 8) : BitVec 8 := colv twoF i w x y z
def m8 (i : Nat) (v : BitVec 8 × BitVec 8 × BitVec 8 × BitVec 8) : BitVec 8 := colT i v.1 v.2.1 v.2.2.1 v.2.2.2
/-- what four mixings make of one byte of a column, the others 0 -/
def four (f : Nat → BitVec 8 → BitVec 8 → BitVec 8 → BitVec 8 → BitVec 8) (i : Nat) (w x y z : BitVec 8) : BitVec 8 :=
  let a := (f 0 w x y z, f 1 w x y z, f 2 w x y z, f 3 w x y z)
  let b := (f 0 a.1 a.2.1 a.2.2.1 a.2.2.2, f 1 a.1 a.2.1 a.2.2.1 a.2.2.2, f 2 a.1 a.2.1 a.2.2.1 a.2.2.2, f 3 a.1 a.2.1 a.2.2.1 a.2.2.2)
  let c := (f 0 b.1 b.2.1 b.2.2.1 b.2.2.2, f 1 b.1 b.2.1 b.2.2.1 b.2.2.2, f 2 b.1 b.2.1 b.2.2.1 b.2.2.2, f 3 b.1 b.2.1 b.2.2.1 b.2.2.2)
  f i c.1 c.2.1 c.2.2.1 c.2.2.2
def colX (i : Nat) (w x y z : BitVec 8) : BitVec 8 :=
  match i with
  | 0 => (w ^^^ (((w ^^^ x) ^^^ y) ^^^ z)) ^^^ xt (w ^^^ x)
  | 1 => (x ^^^ (((w ^^^ x) ^^^ y) ^^^ z)) ^^^ xt (x ^^^ y)
  | 2 => (y ^^^ (((w ^^^ x) ^^^ y) ^^^ z)) ^^^ xt (y ^^^ z)
  | _ => (z ^^^ (((w ^^^ x) ^^^ y) ^^^ z)) ^^^ xt (z ^^^ w)
theorem colT_X (i : Nat) (w x y z : BitVec 8) : colT i w x y z = colX i w x y z := by
  unfold colT colv colX
  split <;> simp only [two_at]
theorem colX_add (i : Nat) (w x y z w' x' y' z' : BitVec 8) : colX i (w ^^^ w') (x ^^^ x') (y ^^^ y') (z ^^^ z') = colX i w x y z ^^^ colX i w' x' y' z' := by
  have e : ∀ a b a' b' : BitVec 8, xt ((a ^^^ a') ^^^ (b ^^^ b')) = xt (a ^^^ b) ^^^ xt (a' ^^^ b') := fun a b a' b' => by
    rw [← xt_add]; congr 1; simp only [BitVec.xor_assoc, xlc a' b]
  unfold colX
  split <;> (simp only [e]; generalize xt _ = u; generalize xt _ = v; simp only [BitVec.xor_assoc, BitVec.xor_comm, xlc])
theorem four_add (i : Nat) (w x y z w' x' y' z' : BitVec 8) : four colX i (w ^^^ w') (x ^^^ x') (y ^^^ y') (z ^^^ z') = four colX i w x y z ^^^ four colX i w' x' y' z' := by
  unfold four
  simp only [colX_add]
def pick4 (i : Nat) (w x y z : BitVec 8) : BitVec 8 := match i with | 0 => w | 1 => x | 2 => y | _ => z
theorem four_id {i : Nat} (hi : i < 4) (w x y z : BitVec 8) : four colX i w x y z = pick4 i w x y z := by
  have hw : four colX i w 0#8 0#8 0#8 = pick4 i w 0#8 0#8 0#8 := by
    have h : ∀ i, i < 4 → ∀ j, j < 8 → four colX i (1#8 <<< j) 0#8 0#8 0#8 = pick4 i (1#8 <<< j) 0#8 0#8 0#8 := by decide +kernel
    refine ext8 (F := fun w => four colX i w 0#8 0#8 0#8) (G := fun w => pick4 i w 0#8 0#8 0#8) (fun a b => by simpa using four_add i a 0#8 0#8 0#8 b 0#8 0#8 0#8) (fun a b => ?_) (h i hi) w
    unfold pick4; split <;> simp
  have hx : four colX i 0#8 x 0#8 0#8 = pick4 i 0#8 x 0#8 0#8 := by
    have h : ∀ i, i < 4 → ∀ j, j < 8 → four colX i 0#8 (1#8 <<< j) 0#8 0#8 = pick4 i 0#8 (1#8 <<< j) 0#8 0#8 := by decide +kernel
    refine ext8 (F := fun w => four colX i 0#8 w 0#8 0#8) (G := fun w => pick4 i 0#8 w 0#8 0#8) (fun a b => by simpa using four_add i 0#8 a 0#8 0#8 0#8 b 0#8 0#8) (fun a b => ?_) (h i hi) x
    unfold pick4; split <;> simp
  have hy : four colX i 0#8 0#8 y 0#8 = pick4 i 0#8 0#8 y 0#8 := by
    have h : ∀ i, i < 4 → ∀ j, j < 8 → four colX i 0#8 0#8 (1#8 <<< j) 0#8 = pick4 i 0#8 0#8 (1#8 <<< j) 0#8 := by decide +kernel
    refine ext8 (F := fun w => four colX i 0#8 0#8 w 0#8) (G := fun w => pick4 i 0#8 0#8 w 0#8) (fun a b => by simpa using four_add i 0#8 0#8 a 0#8 0#8 0#8 b 0#8) (fun a b => ?_) (h i hi) y
    unfold pick4; split <;> simp
  have hz : four colX i 0#8 0#8 0#8 z = pick4 i 0#8 0#8 0#8 z := by
    have h : ∀ i, i < 4 → ∀ j, j < 8 → four colX i 0#8 0#8 0#8 (1#8 <<< j) = pick4 i 0#8 0#8 0#8 (1#8 <<< j) := by decide +kernel
    refine ext8 (F := fun w => four colX i 0#8 0#8 0#8 w) (G := fun w => pick4 i 0#8 0#8 0#8 w) (fun a b => by simpa using four_add i 0#8 0#8 0#8 a 0#8 0#8 0#8 b) (fun a b => ?_) (h i hi) z
    unfold pick4; split <;> simp
  have h1 := four_add i w 0#8 0#8 0#8 0#8 x 0#8 0#8
  have h2 := four_add i w x 0#8 0#8 0#8 0#8 y 0#8
  have h3 := four_add i w x y 0#8 0#8 0#8 0#8 z
  simp only [BitVec.xor_zero, BitVec.zero_xor] at h1 h2 h3
  rw [h3, h2, h1, hw, hx, hy, hz]
  unfold pick4; split <;> simp
theorem mix4 (s : F8) : E16 (mixF twoF (mixF twoF (mixF twoF (mixF twoF s)))) s := E16.cols fun c i hc hi => by
  have a : ∀ s : F8, ∀ i, i < 4 → mixF twoF s (4 * c + i) = colX i (s (4 * c)) (s (4 * c + 1)) (s (4 * c + 2)) (s (4 * c + 3)) := fun s i hi => by rw [mixF_at _ _ hc hi]; exact colT_X _ _ _ _ _
  have a0 : ∀ s : F8, mixF twoF s (4 * c) = colX 0 (s (4 * c)) (s (4 * c + 1)) (s (4 * c + 2)) (s (4 * c + 3)) := fun s => a s 0 (by omega)
  rw [a _ i hi]
  simp only [a _ 1 (by omega), a _ 2 (by omega), a _ 3 (by omega), a0]
  have h := four_id hi (s (4 * c)) (s (4 * c + 1)) (s (4 * c + 2)) (s (4 * c + 3))
  unfold four at h
  rw [h]
  match i, hi with
  | 0, _ => rfl
  | 1, _ => rfl
  | 2, _ => rfl
  | 3, _ => rfl

/-! ### rows shifted and the box asked; and back -/
def shAt (box s : F8) (n : Nat) : F8 := fun q => if q < n then box (s ((q + 4 * (q % 4)) % 16)).toNat else 0#8
def shF (box s : F8) : F8 := shAt box s 16
theorem sh_ok (box s : F8) : Iter (aes_Cipher_Encrypt_l1 box s) (0, fun _ => 0#8) (shF box s) := by
  have e0 : (fun _ => 0#8 : F8) = shAt box s 0 := by funext q; simp [shAt]
  rw [e0]
  refine Iter.count (fun i => (i, shAt box s i)) 16 (fun i hi => ?_) ?_
  · unfold aes_Cipher_Encrypt_l1
    simp only [hi, if_true]
    congr 2
    funext q
    simp only [upd_at, shAt]
    by_cases hq : q = i
    · subst hq; simp
    · rw [if_neg hq]
      by_cases h2 : q < i
      · rw [if_pos h2, if_pos (by omega)]
      · rw [if_neg h2, if_neg (by omega)]
  · unfold aes_Cipher_Encrypt_l1
    simp only [Nat.lt_irrefl, if_false]
    rfl
def ushAt (back s : F8) : Nat → F8
  | 0 => fun _ => 0#8
  | n + 1 => upd (ushAt back s n) ((n + 4 * (n % 4)) % 16) (back (s n).toNat)
def ushF (back s : F8) : F8 := ushAt back s 16
def pi16 (q : Nat) : Nat := (q + 12 * (q % 4)) % 16
theorem shF_at (box s : F8) {q : Nat} (h : q < 16) : shF box s q = box (s ((q + 4 * (q % 4)) % 16)).toNat := if_pos h
theorem ushF_at (back s : F8) {q : Nat} (h : q < 16) : ushF back s q = back (s (pi16 q)).toNat := by
  have h1 : ∀ i, i < 16 → pi16 ((i + 4 * (i % 4)) % 16) = i := by decide
  have h2 : ∀ q, q < 16 → pi16 q < 16 ∧ (pi16 q + 4 * (pi16 q % 4)) % 16 = q := by decide
  exact upd_all (T := fun q => back (s (pi16 q)).toNat) (f := ushAt back s) (idx := fun i => (i + 4 * (i % 4)) % 16) (val := fun i => back (s i).toNat) (m := 16) (fun _ _ => rfl) (fun i hi => by simp only [h1 i hi]) 16 (Nat.le_refl _) q (.inr ⟨_, (h2 q h).1, (h2 q h).2⟩)
theorem shF_E {box s t : F8} (h : E16 s t) : E16 (shF box s) (shF box t) := fun q hq => by rw [shF_at _ _ hq, shF_at _ _ hq, h _ (Nat.mod_lt _ (by omega))]
theorem ushF_E {back s t : F8} (h : E16 s t) : E16 (ushF back s) (ushF back t) := fun q hq => by rw [ushF_at _ _ hq, ushF_at _ _ hq, h (pi16 q) (Nat.mod_lt _ (by omega))]
theorem ush_sh (s : F8) : E16 (ushF backF (shF boxF s)) s := fun q hq => by
  have h2 : ∀ q, q < 16 → pi16 q < 16 ∧ (pi16 q + 4 * (pi16 q % 4)) % 16 = q := by decide
  rw [ushF_at _ _ hq, shF_at _ _ (h2 q hq).1, (h2 q hq).2, box_at, back_at, isb_sb]
theorem sh_ush (s : F8) : E16 (shF boxF (ushF backF s)) s := fun q hq => by
  have h1 : ∀ i, i < 16 → pi16 ((i + 4 * (i % 4)) % 16) = i := by decide
  rw [shF_at _ _ hq, ushF_at _ _ (Nat.mod_lt _ (by omega)), h1 q hq, back_at, box_at, sb_isb]

/-! ### the whole -/
def encAt (k box two s : F8) : Nat → F8
  | 0 => addF k 0 s
  | i + 1 => addF k (i + 1) (if i + 1 < 14 then mixF two (shF box (encAt k box two s i)) else shF box (encAt k box two s i))
def encF (k box two s : F8) : F8 := encAt k box two s 14
theorem enc_ok (k box back two s : F8) : aes_Cipher_Encrypt k box back two s (encF k box two s) := by
  refine ⟨_, add_ok k box back two s 0 (by omega), encF k box two s, ?_, rfl⟩
  refine Iter.count (fun i => (1 + i, encAt k box two s i)) 14 (fun i hi => ?_) ?_
  · unfold aes_Cipher_Encrypt_l0
    simp only [show 1 + i ≤ 14 by omega, if_true]
    refine ⟨_, sh_ok _ _, if i + 1 < 14 then mixF two (shF box (encAt k box two s i)) else shF box (encAt k box two s i), ?_, _, add_ok _ _ _ _ _ (1 + i) (by omega), ?_⟩
    · rw [Nat.add_comm 1 i]
      by_cases h : i + 1 < 14
      · rw [if_pos h, if_pos h]; exact ⟨_, mix_ok _ _ _ _ _, rfl⟩
      · rw [if_neg h, if_neg h]
    · rw [Nat.add_comm 1 i]; rw [show 1 + (i + 1) = i + 1 + 1 by omega]; rfl
  · unfold aes_Cipher_Encrypt_l0
    simp only [show ¬ (1 + 14 ≤ 14) by omega, if_false]
    rfl
def decAt (k back two s : F8) : Nat → F8
  | 0 => s
  | i + 1 => ushF back (if 14 - i < 14 then mixF two (mixF two (mixF two (addF k (14 - i) (decAt k back two s i)))) else addF k (14 - i) (decAt k back two s i))
def decF (k back two s : F8) : F8 := addF k 0 (decAt k back two s 14)
theorem encAt_E {k box two s t : F8} (h : E16 s t) : ∀ i, E16 (encAt k box two s i) (encAt k box two t i)
  | 0 => addF_E h
  | i + 1 => by
    unfold encAt
    refine addF_E ?_
    split
    · exact mixF_E (shF_E (encAt_E h i))
    · exact shF_E (encAt_E h i)
theorem decAt_E {k back two s t : F8} (h : E16 s t) : ∀ i, E16 (decAt k back two s i) (decAt k back two t i)
  | 0 => h
  | i + 1 => by
    unfold decAt
    refine ushF_E ?_
    split
    · exact mixF_E (mixF_E (mixF_E (addF_E (decAt_E h i))))
    · exact addF_E (decAt_E h i)
theorem encF_E {k box two s t : F8} (h : E16 s t) : E16 (encF k box two s) (encF k box two t) := encAt_E h 14
theorem decF_E {k back two s t : F8} (h : E16 s t) : E16 (decF k back two s) (decF k back two t) := addF_E (decAt_E h 14)
theorem dec_enc (k s : F8) : E16 (decF k backF twoF (encF k boxF twoF s)) s := by
  have key : ∀ i, i ≤ 14 → E16 (decAt k backF twoF (encF k boxF twoF s) i) (encAt k boxF twoF s (14 - i)) := by
    intro i
    induction i with
    | zero => intro _; exact E16.rfl'
    | succ i ih =>
      intro hi
      have h := ih (by omega)
      obtain ⟨j, hj⟩ : ∃ j, 14 - i = j + 1 := ⟨13 - i, by omega⟩
      rw [show 14 - (i + 1) = j by omega]
      rw [hj] at h
      unfold decAt
      rw [hj]
      unfold encAt at h
      have h2 := (addF_E (k := k) (r := j + 1) h).trans (addF_twice k (j + 1) _)
      by_cases hc : j + 1 < 14
      · rw [if_pos hc] at h2
        rw [if_pos hc]
        exact (ushF_E ((mixF_E (mixF_E (mixF_E h2))).trans (mix4 _))).trans (ush_sh _)
      · rw [if_neg hc] at h2
        rw [if_neg hc]
        exact (ushF_E h2).trans (ush_sh _)
  exact (addF_E (key 14 (Nat.le_refl _))).trans (addF_twice k 0 s)
theorem enc_dec (k s : F8) : E16 (encF k boxF twoF (decF k backF twoF s)) s := by
  have key : ∀ i, i ≤ 14 → E16 (encAt k boxF twoF (decF k backF twoF s) i) (decAt k backF twoF s (14 - i)) := by
    intro i
    induction i with
    | zero => intro _; exact addF_twice k 0 _
    | succ i ih =>
      intro hi
      have h := ih (by omega)
      obtain ⟨j, hj⟩ : ∃ j, 14 - i = j + 1 := ⟨13 - i, by omega⟩
      rw [show 14 - (i + 1) = j by omega]
      rw [hj] at h
      have hr : 14 - j = i + 1 := by omega
      unfold decAt at h
      rw [hr] at h
      unfold encAt
      have h2 := (shF_E (box := boxF) h).trans (sh_ush _)
      by_cases hc : i + 1 < 14
      · rw [if_pos hc] at h2
        rw [if_pos hc]
        exact (addF_E ((mixF_E h2).trans (mix4 _))).trans (addF_twice k (i + 1) _)
      · rw [if_neg hc] at h2
        rw [if_neg hc]
        exact (addF_E h2).trans (addF_twice k (i + 1) _)
  exact key 14 (Nat.le_refl _)
theorem eqB_E {s t : F8} : eqB 16 s t = true ↔ E16 s t := eqB_iff
end Go.Proofs.YthjkmhdgenmnoaaDoor
