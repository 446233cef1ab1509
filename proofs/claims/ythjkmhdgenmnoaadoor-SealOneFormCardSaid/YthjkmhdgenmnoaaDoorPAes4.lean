/-
  PLAIN LAW, AES PART 4 (own work): the expanded key; New; counters and streams, as functions.
-/
import Derived.Test.YthjkmhdgenmnoaaDoorPAes3
namespace Go.Proofs.YthjkmhdgenmnoaaDoor
set_option linter.unusedSimpArgs false
set_option linter.unusedVariables false
set_option linter.unusedSectionVars false
open Go Go.LW

def innerAt (m g : F8) (t : Nat) : Nat → F8
  | 0 => m
  | k + 1 => upd (innerAt m g t k) (t * 4 + k) ((innerAt m g t k ((t - 8) * 4 + k)) ^^^ g k)
def gW (box : F8) (pw : BitVec 8) (t : Nat) (m : F8) : F8 :=
  if t % 8 = 0 then lit [box ((fun q => m ((t - 1) * 4 + q)) 1).toNat ^^^ pw, box ((fun q => m ((t - 1) * 4 + q)) 2).toNat, box ((fun q => m ((t - 1) * 4 + q)) 3).toNat, box ((fun q => m ((t - 1) * 4 + q)) 0).toNat]
  else if t % 8 = 4 then lit [box ((fun q => m ((t - 1) * 4 + q)) 0).toNat, box ((fun q => m ((t - 1) * 4 + q)) 1).toNat, box ((fun q => m ((t - 1) * 4 + q)) 2).toNat, box ((fun q => m ((t - 1) * 4 + q)) 3).toNat]
  else fun q => m ((t - 1) * 4 + q)
def pwW (pw : BitVec 8) (t : Nat) : BitVec 8 := if t % 8 = 0 then mul8 pw 2#8 else pw
def exAt (box : F8) (key : List Byte) : Nat → BitVec 8 × F8
  | 0 => (1#8, fun _ => 0#8)
  | t + 1 => if t < 8 then ((exAt box key t).1, spl (exAt box key t).2 (t * 4) (min (seg key (4 * t) key.length).length 4) (lit (seg key (4 * t) key.length)))
    else (pwW (exAt box key t).1 t, innerAt (exAt box key t).2 (gW box (exAt box key t).1 t (exAt box key t).2) t 4)
def kAt (m k0 : F8) (i : Nat) : F8 := fun q => if q < 4 * i then m q else k0 q
def expF (box : F8) (key : List Byte) (k0 : F8) : F8 := kAt (exAt box key 60).2 k0 60
theorem exp_ok (k0 box back two : F8) {key : List Byte} (hk : key.length = 32) : aes_Cipher_expand k0 box back two key (expF box key k0) := by
  refine ⟨(exAt box key 60).2, ?_, expF box key k0, ?_, rfl⟩
  · refine Iter.count (fun t => ((exAt box key t).1, t, (exAt box key t).2)) 60 (fun t ht => ?_) ?_
    · unfold aes_Cipher_expand_l0
      simp only [ht, if_true]
      by_cases h8 : t < 8
      · rw [if_pos h8]
        refine ⟨⟨by omega, Nat.le_refl _⟩, ?_⟩
        simp only [exAt, h8, if_true]
      · rw [if_neg h8]
        refine ⟨pwW (exAt box key t).1 t, gW box (exAt box key t).1 t (exAt box key t).2, ?_, innerAt (exAt box key t).2 (gW box (exAt box key t).1 t (exAt box key t).2) t 4, ?_, ?_⟩
        · by_cases h0 : t % 8 = 0
          · rw [if_pos h0]
            exact ⟨_, mul_ok _ _, by simp only [pwW, h0, if_true], by simp only [gW, h0, if_true]⟩
          · rw [if_neg h0]
            by_cases h4 : t % 8 = 4
            · rw [if_pos h4]; exact ⟨by simp only [pwW, h0, if_false], by unfold gW; rw [if_neg h0, if_pos h4]⟩
            · rw [if_neg h4]; exact ⟨by simp only [pwW, h0, if_false], by unfold gW; rw [if_neg h0, if_neg h4]⟩
        · refine Iter.count (fun k => (k, innerAt (exAt box key t).2 (gW box (exAt box key t).1 t (exAt box key t).2) t k)) 4 (fun k hk => ?_) ?_
          · unfold aes_Cipher_expand_l1
            simp only [hk, if_true]
            rfl
          · unfold aes_Cipher_expand_l1
            simp only [Nat.lt_irrefl, if_false]
        · simp only [exAt, h8, if_false]
    · unfold aes_Cipher_expand_l0
      simp only [Nat.lt_irrefl, if_false]
  · have e0 : kAt (exAt box key 60).2 k0 0 = k0 := by funext q; simp [kAt]
    rw [show (0, k0) = (0, kAt (exAt box key 60).2 k0 0) by rw [e0]]
    unfold expF
    generalize (exAt box key 60).2 = m
    refine Iter.count (fun i => (i, kAt m k0 i)) 60 (fun i hi => ?_) ?_
    · unfold aes_Cipher_expand_l2
      simp only [hi, if_true]
      refine ⟨⟨by omega, by omega, by omega⟩, ?_⟩
      congr 2
      funext q
      have e1 : i / 4 * 16 + 4 * (i % 4) = 4 * i := by omega
      have e2 : min 4 (16 - 4 * (i % 4)) = 4 := by omega
      rw [e1, e2]
      unfold spl kAt
      by_cases h : 4 * i ≤ q ∧ q < 4 * i + 4
      · rw [if_pos h, if_pos (by omega), lit_dl _ (by omega)]
        congr 1; omega
      · rw [if_neg h]
        by_cases h2 : q < 4 * i
        · rw [if_pos h2, if_pos (by omega)]
        · rw [if_neg h2, if_neg (by omega)]
    · unfold aes_Cipher_expand_l2
      simp only [Nat.lt_irrefl, if_false]
/-- keys that are the same over the round keys' bytes -/
def E240 (k k' : F8) : Prop := ∀ q, q < 240 → k q = k' q
theorem expF_E (box : F8) (key : List Byte) (k0 k1 : F8) : E240 (expF box key k0) (expF box key k1) := fun q hq => by
  unfold expF kAt
  rw [if_pos hq, if_pos hq]
def keyF (key : List Byte) : F8 := expF boxF key (fun _ => 0#8)
theorem new_ok {key : List Byte} (hk : key.length = 32) : aes_New key (.inr (keyF key, boxF, backF, twoF, 0)) := by
  unfold aes_New
  rw [if_neg (by omega)]
  exact ⟨_, _, _, fill_ok, _, exp_ok _ _ _ _ hk, rfl⟩
theorem new_no {key : List Byte} (hk : key.length ≠ 32) : aes_New key (.inl 40) := by
  unfold aes_New
  rw [if_pos hk]
/-! ### congruence in the keys -/
theorem addF_k {k k' : F8} (h : E240 k k') {r : Nat} (hr : r < 15) {s t : F8} (hs : E16 s t) : E16 (addF k r s) (addF k' r t) := fun q hq => by
  rw [addF_at _ _ _ hq, addF_at _ _ _ hq, h _ (by omega), hs q hq]
theorem encAt_k {k k' box two s t : F8} (h : E240 k k') (hs : E16 s t) : ∀ i, i ≤ 14 → E16 (encAt k box two s i) (encAt k' box two t i)
  | 0, _ => addF_k h (by omega) hs
  | i + 1, hi => by
    unfold encAt
    refine addF_k h (by omega) ?_
    split
    · exact mixF_E (shF_E (encAt_k h hs i (by omega)))
    · exact shF_E (encAt_k h hs i (by omega))
theorem decAt_k {k k' back two s t : F8} (h : E240 k k') (hs : E16 s t) : ∀ i, i ≤ 14 → E16 (decAt k back two s i) (decAt k' back two t i)
  | 0, _ => hs
  | i + 1, hi => by
    unfold decAt
    refine ushF_E ?_
    split
    · exact mixF_E (mixF_E (mixF_E (addF_k h (by omega) (decAt_k h hs i (by omega)))))
    · exact addF_k h (by omega) (decAt_k h hs i (by omega))
theorem encF_k {k k' box two s t : F8} (h : E240 k k') (hs : E16 s t) : E16 (encF k box two s) (encF k' box two t) := encAt_k h hs 14 (Nat.le_refl _)
theorem decF_k {k k' back two s t : F8} (h : E240 k k') (hs : E16 s t) : E16 (decF k back two s) (decF k' back two t) := addF_k h (by omega) (decAt_k h hs 14 (Nat.le_refl _))

/-! ### counters -/
def nxAt (s : F8) (n : BitVec 64) : Nat → BitVec 64 × BitVec 64 × F8
  | 0 => (n, 0#64, s)
  | i + 1 => ((nxAt s n i).1 >>> 8, ((((nxAt s n i).2.2 (15 - i)).setWidth 64 + ((nxAt s n i).1 &&& 255#64)) + (nxAt s n i).2.1) >>> 8,
      upd (nxAt s n i).2.2 (15 - i) (((((nxAt s n i).2.2 (15 - i)).setWidth 64 + ((nxAt s n i).1 &&& 255#64)) + (nxAt s n i).2.1).setWidth 8))
def nextF (s : F8) (n : BitVec 64) : F8 := (nxAt s n 16).2.2
theorem next_ok (s : F8) (n : BitVec 64) : aes_Next s n (nextF s n) := by
  refine ⟨_, ?_, rfl⟩
  refine Iter.count (fun i => ((nxAt s n i).1, (nxAt s n i).2.1, (15 : Int) - i, (nxAt s n i).2.2)) 16 (fun i hi => ?_) ?_
  · unfold aes_Next_l0
    have e1 : ((15 : Int) - i).toNat = 15 - i := by omega
    dsimp only
    rw [if_pos (show (0 : Int) ≤ 15 - (i : Int) by omega), e1]
    refine ⟨⟨by omega, by omega⟩, ⟨by omega, by omega⟩, ⟨by omega, by omega⟩, ?_⟩
    congr 4
    omega
  · unfold aes_Next_l0
    simp only [show ¬ ((0 : Int) ≤ 15 - ((16 : Nat) : Int)) by omega, if_false]
    rfl

/-! ### streams -/
def inAt (out : List Byte) (a : Nat) (x : F8) : Nat → List Byte
  | 0 => out
  | t + 1 => (inAt out a x t).set (a + t) (lit (inAt out a x t) (a + t) ^^^ x t)
theorem inAt_length (out : List Byte) (a : Nat) (x : F8) : ∀ t, (inAt out a x t).length = out.length
  | 0 => rfl
  | t + 1 => by unfold inAt; rw [List.length_set]; exact inAt_length out a x t
def stAt (k box two first : F8) (text : List Byte) : Nat → List Byte × F8
  | 0 => (text, first)
  | i + 1 => (inAt (stAt k box two first text i).1 (16 * i) (encF k box two (stAt k box two first text i).2) (min 16 (text.length - 16 * i)), nextF (stAt k box two first text i).2 1#64)
def strF (k box two first : F8) (text : List Byte) : List Byte := (stAt k box two first text ((text.length + 15) / 16)).1
theorem str_ok (k box back two first : F8) {text : List Byte} (hl : text.length ≤ 140737488355328) : aes_Cipher_Stream k box back two first text (strF k box two first text) := by
  refine ⟨by omega, _, ?_, rfl⟩
  simp only [List.nil_append]
  refine Iter.count (fun i => ((stAt k box two first text i).1, 16 * i, (stAt k box two first text i).2)) ((text.length + 15) / 16) (fun i hi => ?_) ?_
  · unfold aes_Cipher_Stream_l0
    simp only [List.nil_append]
    rw [if_pos (by omega)]
    refine ⟨_, enc_ok _ _ _ _ _, by omega, inAt (stAt k box two first text i).1 (16 * i) (encF k box two (stAt k box two first text i).2) (min 16 (text.length - 16 * i)), ?_, _, next_ok _ _, by omega, rfl⟩
    refine Iter.count (fun t => (inAt (stAt k box two first text i).1 (16 * i) (encF k box two (stAt k box two first text i).2) t, t)) (min 16 (text.length - 16 * i)) (fun t ht => ?_) ?_
    · unfold aes_Cipher_Stream_l1
      simp only [List.nil_append]
      rw [if_pos (by omega)]
      exact ⟨by omega, by omega, by omega, rfl⟩
    · unfold aes_Cipher_Stream_l1
      simp only [List.nil_append]
      rw [if_neg (by omega)]
      trivial
  · unfold aes_Cipher_Stream_l0
    simp only [List.nil_append]
    rw [if_neg (by omega)]
    rfl
theorem inAt_E (out : List Byte) (a : Nat) {x y : F8} (h : E16 x y) : ∀ t, t ≤ 16 → inAt out a x t = inAt out a y t
  | 0, _ => rfl
  | t + 1, ht => by unfold inAt; rw [inAt_E out a h t (by omega), h t (by omega)]
theorem stAt_k {k k' box two first : F8} (h : E240 k k') (text : List Byte) : ∀ i, stAt k box two first text i = stAt k' box two first text i
  | 0 => rfl
  | i + 1 => by
    unfold stAt
    rw [stAt_k h text i, inAt_E _ _ (encF_k h E16.rfl') _ (by omega)]
theorem strF_k {k k' box two first : F8} (h : E240 k k') (text : List Byte) : strF k box two first text = strF k' box two first text := by
  unfold strF; rw [stAt_k h]
end Go.Proofs.YthjkmhdgenmnoaaDoor
