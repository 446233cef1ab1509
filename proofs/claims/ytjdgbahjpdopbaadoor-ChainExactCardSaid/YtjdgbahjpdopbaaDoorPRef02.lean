/-
  PLAIN (own work): the document's SHA-256 (words as numbers below 2^32 in 64 bits, turned by division) is the code's.
-/
import Derived.Test.YtjdgbahjpdopbaaDoorPSha
import Derived.Test.YtjdgbahjpdopbaaDoorRRef02
namespace Go.Proofs.YtjdgbahjpdopbaaDoor
set_option linter.unusedSimpArgs false
set_option linter.unusedVariables false
set_option linter.unusedSectionVars false
open Go Go.LW

def wd (x : BitVec 32) : BitVec 64 := x.setWidth 64
theorem wd_toNat (x : BitVec 32) : (wd x).toNat = x.toNat := by
  unfold wd; rw [BitVec.toNat_setWidth]; have := x.isLt; omega
theorem or_add {a b i : Nat} (h : b < 2 ^ i) : a * 2 ^ i ||| b = a * 2 ^ i + b := by
  rw [← Nat.shiftLeft_eq, Nat.shiftLeft_add_eq_or_of_lt h]
theorem rot1 (x : BitVec 32) : wd x / 2#64 + wd x % 2#64 * 2147483648#64 = wd (x.rotateRight 1) := by
  apply BitVec.eq_of_toNat_eq
  have hx := x.isLt
  rw [wd_toNat, BitVec.toNat_rotateRight, BitVec.toNat_add, BitVec.toNat_mul, BitVec.toNat_umod, BitVec.toNat_udiv, wd_toNat]
  have e : x.toNat <<< (32 - 1 % 32) % 2 ^ 32 = (x.toNat % 2) * 2 ^ 31 := by
    show x.toNat <<< 31 % 2 ^ 32 = _
    rw [Nat.shiftLeft_eq]; simp only [Nat.reducePow] at hx ⊢; omega
  have e2 : x.toNat >>> (1 % 32) = x.toNat / 2 := rfl
  rw [e, e2, Nat.or_comm, or_add (by omega)]
  simp only [BitVec.toNat_ofNat, Nat.reducePow, Nat.reduceMod] at hx ⊢
  omega
theorem rot_succ (x : BitVec 32) {n : Nat} (h : n + 1 < 32) : (x.rotateRight n).rotateRight 1 = x.rotateRight (n + 1) := by
  apply BitVec.eq_of_getLsbD_eq
  intro i hi
  rw [BitVec.getLsbD_rotateRight, BitVec.getLsbD_rotateRight, BitVec.getLsbD_rotateRight, BitVec.getLsbD_rotateRight, Nat.mod_eq_of_lt (show n + 1 < 32 by omega), Nat.mod_eq_of_lt (show n < 32 by omega), Nat.mod_eq_of_lt (show 1 < 32 by decide)]
  simp only [Bool.cond_decide]
  by_cases h1 : i < 31
  · rw [if_pos (by omega)]
    by_cases h2 : 1 + i < 32 - n
    · rw [if_pos h2, if_pos (by omega)]; congr 1; omega
    · rw [if_neg h2, if_neg (by omega)]
      rw [decide_eq_true (show 1 + i < 32 by omega), decide_eq_true (show i < 32 by omega)]
      congr 2; omega
  · obtain rfl : i = 31 := by omega
    rw [if_neg (by omega)]
    by_cases h2 : 31 - (32 - 1) < 32 - n
    · rw [if_pos h2, if_neg (by omega)]
      congr 2; omega
    · omega
theorem rot_zero (x : BitVec 32) : x.rotateRight 0 = x := by
  apply BitVec.eq_of_getLsbD_eq
  intro i hi
  rw [BitVec.getLsbD_rotateRight]
  simp only [Bool.cond_decide]
  rw [if_pos (by omega)]
  congr 1; omega
theorem turn_ok (n : Nat) (h : n < 32) (x : BitVec 32) : letheref02_turn (n : Int) (wd x) (wd (x.rotateRight n)) := by
  refine ⟨_, ?_, rfl⟩
  have key : Iter (letheref02_turn_l0 (n : Int)) (wd (x.rotateRight 0), 0) (wd (x.rotateRight n)) :=
    Iter.count (fun i => (wd (x.rotateRight i), i)) n (fun i hi => by
      unfold letheref02_turn_l0; dsimp only
      rw [if_pos (by omega), rot1, rot_succ x (by omega)]
      exact ⟨by omega, rfl⟩) (by
      unfold letheref02_turn_l0; dsimp only; rw [if_neg (by omega)])
  rwa [rot_zero] at key
theorem move_ok (n : Nat) (h : n < 32) (x : BitVec 32) : letheref02_move (n : Int) (wd x) (wd (x >>> n)) := by
  refine ⟨_, ?_, rfl⟩
  have key : Iter (letheref02_move_l0 (n : Int)) (wd (x >>> 0), 0) (wd (x >>> n)) :=
    Iter.count (fun i => (wd (x >>> i), i)) n (fun i hi => by
      unfold letheref02_move_l0; dsimp only
      have e : wd (x >>> i) / 2#64 = wd (x >>> (i + 1)) := by
        apply BitVec.eq_of_toNat_eq
        rw [BitVec.toNat_udiv, wd_toNat, wd_toNat, BitVec.toNat_ushiftRight, BitVec.toNat_ushiftRight, Nat.shiftRight_succ]; rfl
      rw [if_pos (by omega), e]
      exact ⟨by omega, rfl⟩) (by
      unfold letheref02_move_l0; dsimp only; rw [if_neg (by omega)])
  rwa [BitVec.ushiftRight_zero] at key

/-! ### sums -/
theorem wd_xor (a b : BitVec 32) : wd a ^^^ wd b = wd (a ^^^ b) := by unfold wd; rw [BitVec.setWidth_xor]
theorem wd_and (a b : BitVec 32) : wd a &&& wd b = wd (a &&& b) := by unfold wd; rw [BitVec.setWidth_and]
theorem wd_not (a : BitVec 32) : 4294967295#64 - wd a = wd (~~~a) := by
  apply BitVec.eq_of_toNat_eq
  have ha := a.isLt
  rw [BitVec.toNat_sub, wd_toNat, wd_toNat, BitVec.toNat_not]
  simp only [BitVec.toNat_ofNat]
  omega
theorem sum4 (a b c d : BitVec 32) : (wd a + wd b + wd c + wd d) % 4294967296#64 = wd (a + b + c + d) := by
  apply BitVec.eq_of_toNat_eq
  have := a.isLt; have := b.isLt; have := c.isLt; have := d.isLt
  simp only [BitVec.toNat_umod, BitVec.toNat_add, wd_toNat, BitVec.toNat_ofNat, Nat.reducePow, Nat.reduceMod]
  omega
theorem sum6 (x a b c d e : BitVec 32) : (wd x + (wd a + wd b + wd c + wd d + wd e)) % 4294967296#64 = wd (x + (a + b + c + d + e)) := by
  apply BitVec.eq_of_toNat_eq
  have := a.isLt; have := b.isLt; have := c.isLt; have := d.isLt; have := e.isLt; have := x.isLt
  simp only [BitVec.toNat_umod, BitVec.toNat_add, wd_toNat, BitVec.toNat_ofNat, Nat.reducePow, Nat.reduceMod]
  omega
theorem sum7 (a b c d e f g : BitVec 32) : (wd a + wd b + wd c + wd d + wd e + (wd f + wd g)) % 4294967296#64 = wd (a + b + c + d + e + (f + g)) := by
  apply BitVec.eq_of_toNat_eq
  have := a.isLt; have := b.isLt; have := c.isLt; have := d.isLt; have := e.isLt; have := f.isLt; have := g.isLt
  simp only [BitVec.toNat_umod, BitVec.toNat_add, wd_toNat, BitVec.toNat_ofNat, Nat.reducePow, Nat.reduceMod]
  omega
theorem sum2 (a b : BitVec 32) : ((a.setWidth 64 + wd b) % 4294967296#64).setWidth 32 = a + b := by
  apply BitVec.eq_of_toNat_eq
  have := a.isLt; have := b.isLt
  simp only [BitVec.toNat_setWidth, BitVec.toNat_umod, BitVec.toNat_add, wd_toNat, BitVec.toNat_ofNat, Nat.reducePow, Nat.reduceMod]
  omega

/-! ### the schedule -/
def pkw (blk : Nat → Byte) (t : Nat) : Nat → BitVec 64
  | 0 => 0#64
  | k + 1 => pkw blk t k * 256#64 + (blk (4 * t + k)).setWidth 64
theorem be32_toNat (a b c d : BitVec 8) : (be32 a b c d).toNat = ((a.toNat * 256 + b.toNat) * 256 + c.toNat) * 256 + d.toNat := by
  have ha := a.isLt; have hb := b.isLt; have hc := c.isLt; have hd := d.isLt
  unfold be32
  simp only [BitVec.toNat_or, BitVec.toNat_shiftLeft, BitVec.toNat_setWidth, Nat.shiftLeft_eq]
  rw [Nat.mod_eq_of_lt (show a.toNat < 2 ^ 32 by omega), Nat.mod_eq_of_lt (show b.toNat < 2 ^ 32 by omega), Nat.mod_eq_of_lt (show c.toNat < 2 ^ 32 by omega), Nat.mod_eq_of_lt (show d.toNat < 2 ^ 32 by omega),
    Nat.mod_eq_of_lt (show a.toNat * 2 ^ 24 < 2 ^ 32 by omega), Nat.mod_eq_of_lt (show b.toNat * 2 ^ 16 < 2 ^ 32 by omega), Nat.mod_eq_of_lt (show c.toNat * 2 ^ 8 < 2 ^ 32 by omega)]
  rw [or_add (show b.toNat * 2 ^ 16 < 2 ^ 24 by omega), show a.toNat * 2 ^ 24 + b.toNat * 2 ^ 16 = (a.toNat * 2 ^ 8 + b.toNat) * 2 ^ 16 by omega, or_add (show c.toNat * 2 ^ 8 < 2 ^ 16 by omega),
    show (a.toNat * 2 ^ 8 + b.toNat) * 2 ^ 16 + c.toNat * 2 ^ 8 = ((a.toNat * 2 ^ 8 + b.toNat) * 2 ^ 8 + c.toNat) * 2 ^ 8 by omega, or_add (show d.toNat < 2 ^ 8 by omega)]
theorem pkw4 (blk : Nat → Byte) (t : Nat) : pkw blk t 4 = wd (wfst blk t) := by
  apply BitVec.eq_of_toNat_eq
  rw [wd_toNat]
  unfold wfst
  rw [be32_toNat]
  have h0 := (blk (4 * t)).isLt; have h1 := (blk (4 * t + 1)).isLt; have h2 := (blk (4 * t + 2)).isLt; have h3 := (blk (4 * t + 3)).isLt
  simp only [pkw, BitVec.toNat_add, BitVec.toNat_mul, BitVec.toNat_setWidth, BitVec.toNat_ofNat, Nat.add_zero]
  omega
theorem upd_self {α : Type} {m : Nat → α} {t : Nat} {v : α} (h : m t = v) : upd m t v = m := by
  funext q; rw [upd_at]; by_cases hq : q = t
  · subst hq; rw [if_pos rfl, h]
  · rw [if_neg hq]
theorem upd_upd {α : Type} {m : Nat → α} {t : Nat} {v u : α} : upd (upd m t v) t u = upd m t u := by
  funext q; rw [upd_at, upd_at, upd_at]; by_cases hq : q = t
  · rw [if_pos hq, if_pos hq]
  · rw [if_neg hq, if_neg hq, if_neg hq]
theorem wbeg_out (blk : Nat → Byte) : ∀ t q, t ≤ q → wbeg blk t q = 0#32
  | 0, _, _ => rfl
  | t + 1, q, h => by
    show upd (wbeg blk t) t _ q = _
    rw [upd_ne _ _ _ _ (by omega)]; exact wbeg_out blk t q (by omega)
theorem wd_upd (m : Nat → BitVec 32) (t : Nat) (v : BitVec 32) : upd (fun q => wd (m q)) t (wd v) = fun q => wd (upd m t v q) := by
  funext q; rw [upd_at, upd_at]; by_cases hq : q = t
  · rw [if_pos hq, if_pos hq]
  · rw [if_neg hq, if_neg hq]
theorem sched_ok (blk : Nat → Byte) : letheref02_schedule blk (fun q => wd (wext blk 48 q)) := by
  refine ⟨fun q => wd (wbeg blk 16 q), ?_, _, ?_, rfl⟩
  · refine Iter.count (fun i => (i, fun q => wd (wbeg blk i q))) 16 (fun i hi => ?_) ?_
    · unfold letheref02_schedule_l0; dsimp only
      rw [if_pos hi]
      refine ⟨upd (fun q => wd (wbeg blk i q)) i (pkw blk i 4), ?_, ?_⟩
      · have key : Iter (letheref02_schedule_l1 blk i) (0, upd (fun q => wd (wbeg blk i q)) i (pkw blk i 0)) (upd (fun q => wd (wbeg blk i q)) i (pkw blk i 4)) :=
          Iter.count (fun k => (k, upd (fun q => wd (wbeg blk i q)) i (pkw blk i k))) 4 (fun k hk => by
            unfold letheref02_schedule_l1; dsimp only
            rw [if_pos hk, upd_same, upd_upd]; rfl) (by
            unfold letheref02_schedule_l1; dsimp only; rw [if_neg (by omega)])
        rwa [upd_self (show wd (wbeg blk i i) = pkw blk i 0 by rw [wbeg_out blk i i (Nat.le_refl _)]; rfl)] at key
      · rw [pkw4, wd_upd]; rfl
    · unfold letheref02_schedule_l0; dsimp only; rw [if_neg (by omega)]
  · refine Iter.count (fun i => (16 + i, fun q => wd (wext blk i q))) 48 (fun i hi => ?_) ?_
    · unfold letheref02_schedule_l2; dsimp only
      rw [if_pos (by omega), show (((16 + i : Nat) : Int) - 2).toNat = 16 + i - 2 by omega, show (((16 + i : Nat) : Int) - 15).toNat = 16 + i - 15 by omega,
        show (((16 + i : Nat) : Int) - 7).toNat = 16 + i - 7 by omega, show (((16 + i : Nat) : Int) - 16).toNat = 16 + i - 16 by omega]
      refine ⟨by omega, by omega, by omega, _, turn_ok 7 (by decide) _, _, turn_ok 18 (by decide) _, _, move_ok 3 (by decide) _, by omega, by omega, by omega, _, turn_ok 17 (by decide) _, _, turn_ok 19 (by decide) _, _, move_ok 10 (by decide) _, by omega, by omega, ?_⟩
      rw [wd_xor, wd_xor, wd_xor, wd_xor, sum4, wd_upd]; rfl
    · unfold letheref02_schedule_l2; dsimp only; rw [if_neg (by omega)]

/-! ### one block -/
def V64 (s : H8) : Nat → BitVec 64 := fun q => if q < 8 then wd (s.at q) else 0#64
def upto {α : Type} (z : α) (f : Nat → α) (i : Nat) : Nat → α := fun q => if q < i then f q else z
theorem upto_succ {α : Type} (z : α) (f : Nat → α) (i : Nat) : upd (upto z f i) i (f i) = upto z f (i + 1) := by
  funext q; rw [upd_at]; unfold upto
  by_cases hq : q = i
  · subst hq; rw [if_pos rfl, if_pos (by omega)]
  · rw [if_neg hq]
    by_cases h : q < i
    · rw [if_pos h, if_pos (by omega)]
    · rw [if_neg h, if_neg (by omega)]
theorem upto_zero {α : Type} (z : α) (f : Nat → α) : upto z f 0 = fun _ => z := by funext q; unfold upto; rw [if_neg (by omega)]
theorem at_of (st : Nat → BitVec 32) : ∀ q, q < 8 → (H8.of st).at q = st q := fun q hq => by
  rcases (by omega : q = 0 ∨ q = 1 ∨ q = 2 ∨ q = 3 ∨ q = 4 ∨ q = 5 ∨ q = 6 ∨ q = 7) with rfl | rfl | rfl | rfl | rfl | rfl | rfl | rfl <;> rfl
def shf (m : Nat → BitVec 64) (j : Nat) : Nat → BitVec 64 := fun q => if 8 - j ≤ q ∧ q < 8 then m (q - 1) else m q
theorem block_ok (st : Nat → BitVec 32) (blk : Nat → Byte) : letheref02_Block st blk (compress K256 st blk) := by
  refine ⟨_, sched_ok blk, V64 (H8.of st), ?_, V64 (rounds K256 (wext blk 48) (H8.of st) 64), ?_, _, ?_, rfl⟩
  · have key : Iter (letheref02_Block_l0 st) (0, upto 0#64 (fun q => wd (st q)) 0) (upto 0#64 (fun q => wd (st q)) 8) :=
      Iter.count (fun i => (i, upto 0#64 (fun q => wd (st q)) i)) 8 (fun i hi => by
        unfold letheref02_Block_l0; dsimp only; rw [if_pos hi, ← upto_succ]; rfl) (by
        unfold letheref02_Block_l0; dsimp only; rw [if_neg (by omega)])
    rw [upto_zero] at key
    have e : upto 0#64 (fun q => wd (st q)) 8 = V64 (H8.of st) := by
      funext q; unfold upto V64
      by_cases h : q < 8
      · rw [if_pos h, if_pos h, at_of st q h]
      · rw [if_neg h, if_neg h]
    rwa [e] at key
  · refine Iter.count (fun i => (i, V64 (rounds K256 (wext blk 48) (H8.of st) i))) 64 (fun i hi => ?_) ?_
    · unfold letheref02_Block_l1; dsimp only
      rw [if_pos hi]
      generalize hs : rounds K256 (wext blk 48) (H8.of st) i = s
      have hs1 : rounds K256 (wext blk 48) (H8.of st) (i + 1) = round (K256 i) (wext blk 48 i) s := by rw [← hs]; rfl
      rw [hs1]
      have v0 : V64 s 0 = wd s.a := rfl
      have v1 : V64 s 1 = wd s.b := rfl
      have v2 : V64 s 2 = wd s.c := rfl
      have v4 : V64 s 4 = wd s.e := rfl
      have v5 : V64 s 5 = wd s.f := rfl
      have v6 : V64 s 6 = wd s.g := rfl
      have v7 : V64 s 7 = wd s.h := rfl
      rw [v0, v1, v2, v4, v5, v6, v7]
      refine ⟨_, turn_ok 2 (by decide) _, _, turn_ok 13 (by decide) _, _, turn_ok 22 (by decide) _, _, turn_ok 6 (by decide) _, _, turn_ok 11 (by decide) _, _, turn_ok 25 (by decide) _, shf (V64 s) 7, ?_, ?_⟩
      · have e0 : shf (V64 s) 0 = V64 s := by funext q; unfold shf; rw [if_neg (by omega)]
        have key : Iter letheref02_Block_l2 ((((7 - 0 : Nat)) : Int), shf (V64 s) 0) (shf (V64 s) 7) :=
          Iter.count (fun j => ((((7 - j : Nat)) : Int), shf (V64 s) j)) 7 (fun j hj => by
            unfold letheref02_Block_l2; dsimp only
            rw [if_pos (by omega)]
            refine ⟨by omega, by omega, by omega, by omega, ?_⟩
            have e1 : (((7 - j : Nat) : Int) - 1) = ((7 - (j + 1) : Nat) : Int) := by omega
            rw [e1]
            have e2 : (((7 - (j + 1) : Nat)) : Int).toNat = 7 - (j + 1) := rfl
            have e3 : (((7 - j : Nat)) : Int).toNat = 7 - j := rfl
            rw [e2, e3]
            have e4 : upd (shf (V64 s) j) (7 - j) (shf (V64 s) j (7 - (j + 1))) = shf (V64 s) (j + 1) := by
              funext q; rw [upd_at]
              by_cases hq : q = 7 - j
              · subst hq; rw [if_pos rfl]; unfold shf; rw [if_neg (by omega), if_pos (by omega)]; congr 1
              · rw [if_neg hq]; unfold shf
                by_cases h2 : 8 - j ≤ q ∧ q < 8
                · rw [if_pos h2, if_pos (by omega)]
                · rw [if_neg h2, if_neg (by omega)]
            rw [e4]) (by
            unfold letheref02_Block_l2; dsimp only; rw [if_neg (by omega)])
        rwa [e0] at key
      · have w4 : shf (V64 s) 7 4 = wd s.d := rfl
        have k1 : K64 i = wd (K256 i) := rfl
        rw [w4, k1, wd_not, wd_and, wd_and, wd_and, wd_and, wd_and, wd_xor, wd_xor, wd_xor, wd_xor, wd_xor, wd_xor, wd_xor, sum6, sum7]
        have e : upd (upd (shf (V64 s) 7) 4 (wd (s.d + t1 (K256 i) (wext blk 48 i) s))) 0 (wd (t1 (K256 i) (wext blk 48 i) s + t2 s)) = V64 (round (K256 i) (wext blk 48 i) s) := by
          funext q
          rw [upd_at, upd_at]
          by_cases h8 : q < 8
          · rcases (by omega : q = 0 ∨ q = 1 ∨ q = 2 ∨ q = 3 ∨ q = 4 ∨ q = 5 ∨ q = 6 ∨ q = 7) with rfl | rfl | rfl | rfl | rfl | rfl | rfl | rfl <;> rfl
          · rw [if_neg (by omega), if_neg (by omega)]; unfold shf V64; rw [if_neg (by omega), if_neg h8, if_neg h8]
        rw [← e]; rfl
    · unfold letheref02_Block_l1; dsimp only; rw [if_neg (by omega)]
  · refine Iter.count (fun i => (i, addTo st (rounds K256 (wext blk 48) (H8.of st) 64).at i)) 8 (fun i hi => ?_) ?_
    · unfold letheref02_Block_l3; dsimp only
      have e : V64 (rounds K256 (wext blk 48) (H8.of st) 64) i = wd ((rounds K256 (wext blk 48) (H8.of st) 64).at i) := by unfold V64; rw [if_pos hi]
      rw [if_pos hi, e, sum2]; rfl
    · unfold letheref02_Block_l3; dsimp only; rw [if_neg (by omega)]; rfl
end Go.Proofs.YtjdgbahjpdopbaaDoor
