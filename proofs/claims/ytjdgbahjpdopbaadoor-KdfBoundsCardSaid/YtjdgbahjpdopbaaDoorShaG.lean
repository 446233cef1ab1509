/-
  PLAIN (own work): the hash in natural numbers, second part.
-/
import Derived.Test.YtjdgbahjpdopbaaDoorShaF
namespace Go.LW
set_option linter.unusedSimpArgs false
set_option linter.unusedVariables false
set_option linter.unusedSectionVars false
theorem c1 (st : Nat → BitVec 32) (blk : Nat → BitVec 8) : (H8.of st).n.go (kws kl256 (wsR blk)) = (rounds K256 (wext blk 48) (H8.of st) 64).n := by
  have h1 := rF_spec K256 (wext blk 48) 64 0 (H8.of st)
  have h2 := rfr_rounds K256 (wext blk 48) (H8.of st) 64 0
  have h3 : rounds K256 (wext blk 48) (H8.of st) 0 = H8.of st := rfl
  rw [h3, Nat.zero_add] at h2
  rw [h2, ← kws_eq] at h1
  exact h1
theorem c2 (st : Nat → BitVec 32) (S : H8) (st' : Nat → BitVec 32) (h : st' = addTo st S.at 8) : nOf st' = ⟨((nOf st).a + S.n.a) % 4294967296, ((nOf st).b + S.n.b) % 4294967296, ((nOf st).c + S.n.c) % 4294967296, ((nOf st).d + S.n.d) % 4294967296, ((nOf st).e + S.n.e) % 4294967296, ((nOf st).f + S.n.f) % 4294967296, ((nOf st).g + S.n.g) % 4294967296, ((nOf st).h + S.n.h) % 4294967296⟩ := by
  have h0 : ∀ i, i < 8 → (st' i).toNat = ((st i).toNat + (S.at i).toNat) % 4294967296 := fun i hi => by
    rw [h, addTo_at _ _ 8 i hi, BitVec.toNat_add]
  unfold nOf H8.n H8.of
  dsimp only
  rw [h0 0 (by omega), h0 1 (by omega), h0 2 (by omega), h0 3 (by omega), h0 4 (by omega), h0 5 (by omega), h0 6 (by omega), h0 7 (by omega)]
  rfl
theorem compress_fast (st : Nat → BitVec 32) (blk : Nat → BitVec 8) : nOf (compress K256 st blk) = stepF (kws kl256 (wsR blk)) (nOf st) := by
  have h1 := c1 st blk
  have h2 := c2 st (rounds K256 (wext blk 48) (H8.of st) 64) (compress K256 st blk) rfl
  rw [h2, stepF_eq]
  generalize (rounds K256 (wext blk 48) (H8.of st) 64) = S at *
  rw [show (nOf st).go (kws kl256 (wsR blk)) = S.n from h1]

def h0F : N8 := ⟨0x6a09e667, 0xbb67ae85, 0x3c6ef372, 0xa54ff53a, 0x510e527f, 0x9b05688c, 0x1f83d9ab, 0x5be0cd19⟩
noncomputable def hstF (m : Nat → BitVec 8) (i : Nat) : N8 := Nat.rec (motive := fun _ => N8) h0F (fun i ih => stepF (kws kl256 (wsR fun q => m (64 * i + q))) ih) i
theorem h0F_eq : nOf H256 = h0F := rfl
theorem hstF_eq (m : Nat → BitVec 8) : ∀ i, nOf (hstN K256 H256 m i) = hstF m i
  | 0 => h0F_eq
  | i + 1 => by
    show nOf (compress K256 (hstN K256 H256 m i) fun q => m (64 * i + q)) = _
    rw [compress_fast, hstF_eq m i]; rfl
def N8.list (s : N8) : List Nat := [s.a, s.b, s.c, s.d, s.e, s.f, s.g, s.h]
theorem nOf_list (s : Nat → BitVec 32) : ∀ i, i < 8 → (nOf s).list.getD i 0 = (s i).toNat := fun i hi => by
  rcases (by omega : i = 0 ∨ i = 1 ∨ i = 2 ∨ i = 3 ∨ i = 4 ∨ i = 5 ∨ i = 6 ∨ i = 7) with rfl | rfl | rfl | rfl | rfl | rfl | rfl | rfl <;> rfl
/-- a digest, as its eight words -/
theorem dig_of {st : Nat → BitVec 32} {l : List Nat} (h : (nOf st).list = l) {D : List (BitVec 8)} (hD : (List.range 32).all (fun q => D.getD q 0 == BitVec.ofNat 8 (l.getD (q / 4) 0 >>> (24 - 8 * (q % 4)))) = true) : ∀ q, q < 32 → dig st q = lit D q := fun q hq => by
  have h1 := List.all_eq_true.1 hD q (List.mem_range.2 hq)
  rw [beq_iff_eq] at h1
  unfold lit
  rw [show D.getD q 0#8 = _ from h1, ← h, nOf_list st _ (by omega)]
  unfold dig
  apply BitVec.eq_of_toNat_eq
  rw [BitVec.toNat_setWidth, BitVec.toNat_ushiftRight, BitVec.toNat_ofNat]
end Go.LW
