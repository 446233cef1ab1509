/-
  PLAIN (own work): the document's padding, blocks and digest are the code's.
-/
import Derived.Test.YtjdgbahjpdopbaaDoorPRef02
namespace Go.Proofs.YtjdgbahjpdopbaaDoor
set_option linter.unusedSimpArgs false
set_option linter.unusedVariables false
set_option linter.unusedSectionVars false
open Go Go.LW

theorem begin_ok : letheref02_Begin H256 := by
  refine ⟨H256, ?_, rfl⟩
  have key : Iter (letheref02_Begin_l0) (0, upto 0#32 H256 0) (upto 0#32 H256 8) :=
    Iter.count (fun i => (i, upto 0#32 H256 i)) 8 (fun i hi => by
      unfold letheref02_Begin_l0; dsimp only
      have e : (H64 i).setWidth 32 = H256 i := by
        apply BitVec.eq_of_toNat_eq
        have := (H256 i).isLt
        unfold H64
        simp only [BitVec.toNat_setWidth, Nat.reducePow] at this ⊢
        omega
      rw [if_pos hi, e, upto_succ]) (by
      unfold letheref02_Begin_l0; dsimp only; rw [if_neg (by omega)])
  rw [upto_zero] at key
  have e : upto 0#32 H256 8 = H256 := by
    funext q; unfold upto
    by_cases h : q < 8
    · rw [if_pos h]
    · rw [if_neg h]; unfold H256
      simp [Array.getD, h]
  rwa [e] at key
theorem at_ok {b : List Byte} {i : Nat} (h : 64 * i + 64 ≤ b.length) (hb : b.length < 9223372036854775808) : letheref02_At b (i : Int) (upto 0#8 (fun q => lit b (64 * i + q)) 64) := by
  refine ⟨_, ?_, rfl⟩
  have key : Iter (letheref02_At_l0 b (i : Int)) (0, upto 0#8 (fun q => lit b (64 * i + q)) 0) (upto 0#8 (fun q => lit b (64 * i + q)) 64) :=
    Iter.count (fun k => (k, upto 0#8 (fun q => lit b (64 * i + q)) k)) 64 (fun k hk => by
      unfold letheref02_At_l0; dsimp only
      rw [if_pos hk, show ((64 * (i : Int)) + (k : Int)).toNat = 64 * i + k by omega, ← upto_succ]
      exact ⟨by omega, by omega, by omega, rfl⟩) (by
      unfold letheref02_At_l0; dsimp only; rw [if_neg (by omega)])
  rwa [upto_zero] at key

/-! ### the digest -/
theorem dgb_upto (st : Nat → BitVec 32) (i : Nat) : dgb st i = upto 0#8 (dig st) (4 * i) := by
  funext q; unfold upto
  by_cases h : q < 4 * i
  · rw [if_pos h, dgb_at st i q h]
  · rw [if_neg h]
    have : ∀ i, 4 * i ≤ q → dgb st i q = 0#8 := by
      intro i
      induction i with
      | zero => intro _; rfl
      | succ i ih =>
        intro hq
        simp only [dgb, upd_at]
        rw [if_neg (by omega), if_neg (by omega), if_neg (by omega), if_neg (by omega)]
        exact ih (by omega)
    exact this i (by omega)
def bo (st : Nat → BitVec 32) (i j : Nat) : Nat → Byte := fun q => if 4 * i + 4 - j ≤ q ∧ q < 4 * i + 4 then dig st q else if q < 4 * i then dig st q else 0#8
theorem bytesOf_ok (st : Nat → BitVec 32) : letheref02_bytesOf st (dgb st 8) := by
  refine ⟨dgb st 8, ?_, rfl⟩
  refine Iter.count (fun i => (i, dgb st i)) 8 (fun i hi => ?_) ?_
  · unfold letheref02_bytesOf_l0; dsimp only
    rw [if_pos hi]
    refine ⟨dgb st (i + 1), ?_, rfl⟩
    have e0 : bo st i 0 = dgb st i := by
      rw [dgb_upto]; funext q; unfold bo upto; rw [if_neg (by omega)]
    have e4 : bo st i 4 = dgb st (i + 1) := by
      rw [dgb_upto]; funext q; unfold bo upto
      by_cases h1 : q < 4 * i
      · rw [if_neg (by omega), if_pos h1, if_pos (by omega)]
      · by_cases h2 : q < 4 * i + 4
        · rw [if_pos (by omega), if_pos (by omega)]
        · rw [if_neg (by omega), if_neg h1, if_neg (by omega)]
    have key : Iter (letheref02_bytesOf_l1 i) (st i >>> (8 * 0), (3 - ((0 : Nat) : Int)), bo st i 0) (bo st i 4) :=
      Iter.count (fun j => (st i >>> (8 * j), (3 - ((j : Nat) : Int)), bo st i j)) 4 (fun j hj => by
        unfold letheref02_bytesOf_l1; dsimp only
        have h1 : st i >>> (8 * j) / 256#32 = st i >>> (8 * (j + 1)) := by
          apply BitVec.eq_of_toNat_eq
          rw [BitVec.toNat_udiv, BitVec.toNat_ushiftRight, BitVec.toNat_ushiftRight, Nat.mul_succ, Nat.shiftRight_add]
          simp only [BitVec.toNat_ofNat, Nat.reducePow, Nat.reduceMod, Nat.shiftRight_eq_div_pow]
        have h2 : (st i >>> (8 * j) % 256#32).setWidth 8 = (st i >>> (8 * j)).setWidth 8 := by
          apply BitVec.eq_of_toNat_eq
          simp only [BitVec.toNat_setWidth, BitVec.toNat_umod, BitVec.toNat_ofNat, Nat.reducePow, Nat.reduceMod]
          omega
        rw [if_pos (by omega), show ((((4 * i : Nat)) : Int) + (3 - (j : Int))).toNat = 4 * i + 3 - j by omega, h1, h2]
        refine ⟨by omega, by omega, by omega, ?_⟩
        have h3 : (3 - (j : Int) - 1) = 3 - ((j + 1 : Nat) : Int) := by omega
        have h4 : upd (bo st i j) (4 * i + 3 - j) ((st i >>> (8 * j)).setWidth 8) = bo st i (j + 1) := by
          funext q; rw [upd_at]
          by_cases hq : q = 4 * i + 3 - j
          · subst hq; rw [if_pos rfl]; unfold bo; rw [if_pos (by omega)]
            unfold dig
            rw [show (4 * i + 3 - j) / 4 = i by omega, show 24 - 8 * ((4 * i + 3 - j) % 4) = 8 * j by omega]
          · rw [if_neg hq]; unfold bo
            by_cases h5 : 4 * i + 4 - j ≤ q ∧ q < 4 * i + 4
            · rw [if_pos h5, if_pos (by omega)]
            · rw [if_neg h5, if_neg (show ¬ (4 * i + 4 - (j + 1) ≤ q ∧ q < 4 * i + 4) by omega)]
        rw [h3, h4]) (by
        unfold letheref02_bytesOf_l1; dsimp only; rw [if_neg (by omega)])
    rw [e0, e4, Nat.mul_zero, BitVec.ushiftRight_zero] at key
    exact key
  · unfold letheref02_bytesOf_l0; dsimp only; rw [if_neg (by omega)]

/-! ### padding -/
theorem len_byte (N i : Nat) (h : i < 8) : ((BitVec.ofNat 64 N * 8#64) >>> (8 * (7 - i)) % 256#64).setWidth 8 = lenb N i := by
  unfold lenb
  rw [BitVec.mul_comm, show 56 - 8 * i = 8 * (7 - i) by omega]
  apply BitVec.eq_of_toNat_eq
  simp only [BitVec.toNat_setWidth, BitVec.toNat_umod, BitVec.toNat_ofNat, Nat.reducePow, Nat.reduceMod]
  omega
def tl (N j : Nat) : Nat → Byte := fun q => if 8 - j ≤ q ∧ q < 8 then lenb N q else 0#8
theorem padded_ok2 {X : List Byte} (h : X.length < 70368744177664) : letheref02_padded X (padB X) := by
  have hz : (119 - X.length % 64) % 64 < 64 := by omega
  refine ⟨by omega, by rw [List.nil_append, List.length_singleton]; omega, pad0 X, ?_, pad0 X, tl X.length 8, ?_, ?_, ?_⟩
  · rw [List.nil_append]
    have key : Iter (letheref02_padded_l0) (X ++ 128#8 :: List.replicate 0 0#8) (X ++ 128#8 :: List.replicate ((119 - X.length % 64) % 64) 0#8) :=
      Iter.count (fun i => X ++ 128#8 :: List.replicate i 0#8) ((119 - X.length % 64) % 64) (fun i hi => by
        unfold letheref02_padded_l0
        have hl : (X ++ 128#8 :: List.replicate i 0#8).length = X.length + 1 + i := by rw [List.length_append, List.length_cons, List.length_replicate]; omega
        rw [hl, if_pos (by omega)]
        refine ⟨by rw [List.length_singleton]; omega, ?_⟩
        rw [List.append_assoc, List.cons_append, List.replicate_succ']) (by
        unfold letheref02_padded_l0
        have hl : (X ++ 128#8 :: List.replicate ((119 - X.length % 64) % 64) 0#8).length = X.length + 1 + (119 - X.length % 64) % 64 := by rw [List.length_append, List.length_cons, List.length_replicate]; omega
        rw [hl, if_neg (by omega)])
    exact key
  · have e0 : tl X.length 0 = fun _ => 0#8 := by funext q; unfold tl; rw [if_neg (by omega)]
    have key : Iter (letheref02_padded_l1) (pad0 X, (BitVec.ofNat 64 X.length * 8#64) >>> (8 * 0), (7 - ((0 : Nat) : Int)), tl X.length 0) (pad0 X, tl X.length 8) :=
      Iter.count (fun j => (pad0 X, (BitVec.ofNat 64 X.length * 8#64) >>> (8 * j), (7 - ((j : Nat) : Int)), tl X.length j)) 8 (fun j hj => by
        unfold letheref02_padded_l1; dsimp only
        have h1 : (BitVec.ofNat 64 X.length * 8#64) >>> (8 * j) / 256#64 = (BitVec.ofNat 64 X.length * 8#64) >>> (8 * (j + 1)) := by
          generalize BitVec.ofNat 64 X.length * 8#64 = y
          apply BitVec.eq_of_toNat_eq
          rw [BitVec.toNat_udiv, BitVec.toNat_ushiftRight, BitVec.toNat_ushiftRight, Nat.mul_succ, Nat.shiftRight_add]
          simp only [BitVec.toNat_ofNat, Nat.reducePow, Nat.reduceMod, Nat.shiftRight_eq_div_pow]
        rw [if_pos (by omega), h1, show (7 - (j : Int)).toNat = 7 - j by omega]
        refine ⟨by omega, by omega, ?_⟩
        have h2 := len_byte X.length (7 - j) (by omega)
        rw [show 8 * (7 - (7 - j)) = 8 * j by omega] at h2
        have h3 : (7 - (j : Int) - 1) = 7 - ((j + 1 : Nat) : Int) := by omega
        have h4 : upd (tl X.length j) (7 - j) (lenb X.length (7 - j)) = tl X.length (j + 1) := by
          funext q; rw [upd_at]
          by_cases hq : q = 7 - j
          · subst hq; rw [if_pos rfl]; unfold tl; rw [if_pos (by omega)]
          · rw [if_neg hq]; unfold tl
            by_cases h5 : 8 - j ≤ q ∧ q < 8
            · rw [if_pos h5, if_pos (by omega)]
            · rw [if_neg h5, if_neg (by omega)]
        rw [h2, h3, h4]) (by
        unfold letheref02_padded_l1; dsimp only; rw [if_neg (by omega)])
    rw [e0, Nat.mul_zero, BitVec.ushiftRight_zero] at key
    exact key
  · show (pad0 X).length + 8 ≤ _
    unfold pad0
    rw [List.length_append, List.length_cons, List.length_replicate]
    omega
  · have e : ∀ i, i < 8 → tl X.length 8 i = lenb X.length i := fun i hi => by unfold tl; rw [if_pos (by omega)]
    rw [e 0 (by decide), e 1 (by decide), e 2 (by decide), e 3 (by decide), e 4 (by decide), e 5 (by decide), e 6 (by decide), e 7 (by decide)]
    rfl
theorem padB_len2 (X : List Byte) : (padB X).length % 64 = 0 ∧ (padB X).length ≤ X.length + 72 ∧ 64 ≤ (padB X).length := by
  unfold padB pad0
  rw [List.length_append, List.length_append, List.length_cons, List.length_replicate, List.length_map, List.length_range]
  omega
theorem compress_ext {KK s : Nat → BitVec 32} {b b' : Nat → Byte} (h : ∀ q, q < 64 → b q = b' q) : compress KK s b = compress KK s b' := by
  unfold compress; rw [wext_congr h]
theorem refsum_ok {X : List Byte} (h : X.length < 70368744177664) : letheref02_Sum X (shaL X) := by
  have hp := padB_len2 X
  refine ⟨padB X, padded_ok2 h, H256, begin_ok, hstN K256 H256 (lit (padB X)) ((padB X).length / 64), ?_, _, bytesOf_ok _, rfl⟩
  refine Iter.count (fun i => (padB X, i, hstN K256 H256 (lit (padB X)) i)) ((padB X).length / 64) (fun i hi => ?_) ?_
  · unfold letheref02_Sum_l0; dsimp only
    refine ⟨by omega, ?_⟩
    rw [if_pos hi]
    refine ⟨_, at_ok (by omega) (by omega), _, block_ok _ _, by omega, ?_⟩
    have e : hstN K256 H256 (lit (padB X)) (i + 1) = compress K256 (hstN K256 H256 (lit (padB X)) i) (upto 0#8 (fun q => lit (padB X) (64 * i + q)) 64) := by
      show compress _ _ _ = _
      exact compress_ext fun q hq => by unfold upto; rw [if_pos hq]
    rw [e]
  · unfold letheref02_Sum_l0; dsimp only
    exact ⟨by omega, by rw [if_neg (by omega)]⟩
end Go.Proofs.YtjdgbahjpdopbaaDoor
