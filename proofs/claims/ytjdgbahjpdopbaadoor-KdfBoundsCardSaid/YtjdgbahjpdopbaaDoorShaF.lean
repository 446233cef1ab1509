/-
  PLAIN (own work): the same hash in natural numbers, for the kernel to reckon with.
-/
import Derived.Test.YtjdgbahjpdopbaaDoorShaP
namespace Go.LW
set_option linter.unusedSimpArgs false
set_option linter.unusedVariables false
set_option linter.unusedSectionVars false

/-- n is reckoned ahead of what is made of it -/
@[reducible] def force {α : Type} (n : Nat) (k : Nat → α) : α := Nat.rec (k Nat.zero) (fun m _ => k (Nat.succ m)) n
theorem force_eq {α : Type} (n : Nat) (k : Nat → α) : force n k = k n := by cases n <;> rfl

structure N8 where
  (a b c d e f g h : Nat)

noncomputable def rF (l : List Nat) : Nat → Nat → Nat → Nat → Nat → Nat → Nat → Nat → N8 :=
  List.rec (motive := fun _ => Nat → Nat → Nat → Nat → Nat → Nat → Nat → Nat → N8) (fun a b c d e f g h => ⟨a, b, c, d, e, f, g, h⟩)
    (fun kw _ ih a b c d e f g h =>
      force (Nat.mul e 4294967297) fun ee =>
      force (Nat.mod (Nat.add (Nat.add (Nat.add h (Nat.xor (Nat.xor (Nat.shiftRight ee 6) (Nat.shiftRight ee 11)) (Nat.shiftRight ee 25))) (Nat.xor (Nat.land (Nat.xor f g) e) g)) kw) 4294967296) fun t =>
      force (Nat.mul a 4294967297) fun aa =>
      force (Nat.mod (Nat.add (Nat.add t (Nat.xor (Nat.xor (Nat.shiftRight aa 2) (Nat.shiftRight aa 13)) (Nat.shiftRight aa 22))) (Nat.xor (Nat.land a (Nat.xor b c)) (Nat.land b c))) 4294967296) fun a' =>
      force (Nat.mod (Nat.add d t) 4294967296) fun e' => ih a' a b c e' e f g) l

theorem nadd (a b : Nat) : Nat.add a b = a + b := rfl
theorem nmul (a b : Nat) : Nat.mul a b = a * b := rfl
theorem nmod (a b : Nat) : Nat.mod a b = a % b := rfl
theorem nxor (a b : Nat) : Nat.xor a b = a ^^^ b := rfl
theorem nland (a b : Nat) : Nat.land a b = a &&& b := rfl
theorem nshr (a b : Nat) : Nat.shiftRight a b = a >>> b := rfl
theorem rF_cons (kw : Nat) (l : List Nat) (a b c d e f g h : Nat) : rF (kw :: l) a b c d e f g h =
    rF l ((((h + (((e * 4294967297) >>> 6) ^^^ ((e * 4294967297) >>> 11) ^^^ ((e * 4294967297) >>> 25)) + (((f ^^^ g) &&& e) ^^^ g) + kw) % 4294967296 + (((a * 4294967297) >>> 2) ^^^ ((a * 4294967297) >>> 13) ^^^ ((a * 4294967297) >>> 22)) + ((a &&& (b ^^^ c)) ^^^ (b &&& c))) % 4294967296)) a b c
      ((d + (h + (((e * 4294967297) >>> 6) ^^^ ((e * 4294967297) >>> 11) ^^^ ((e * 4294967297) >>> 25)) + (((f ^^^ g) &&& e) ^^^ g) + kw) % 4294967296) % 4294967296) e f g := by
  unfold rF
  simp only [force_eq, nadd, nmul, nmod, nxor, nland, nshr]
theorem rot_toNat (X : BitVec 32) (n : Nat) (hn : 0 < n ∧ n < 32) : (X.rotateRight n).toNat = ((X.toNat * 4294967297) >>> n) % 4294967296 := by
  have h3 : X.rotateRight n = X >>> n ||| X <<< (32 - n) := by unfold BitVec.rotateRight BitVec.rotateRightAux; rw [Nat.mod_eq_of_lt hn.2]
  have hX : X.toNat < 4294967296 := X.isLt
  rw [h3, BitVec.toNat_or, BitVec.toNat_ushiftRight, BitVec.toNat_shiftLeft, Nat.shiftRight_eq_div_pow, Nat.shiftRight_eq_div_pow, Nat.shiftLeft_eq]
  generalize X.toNat = x at *
  obtain ⟨m, hm⟩ : ∃ m, m + n = 32 := ⟨32 - n, by omega⟩
  rw [show 32 - n = m by omega]
  have h32 : (2 : Nat) ^ 32 = 2 ^ n * 2 ^ m := by rw [← Nat.pow_add, Nat.add_comm, hm]
  have e1 : x * 2 ^ m % 2 ^ 32 = (x % 2 ^ n) * 2 ^ m := by rw [h32, Nat.mul_mod_mul_right]
  have e2 : x * 4294967297 / 2 ^ n = x * 2 ^ m + x / 2 ^ n := by
    rw [show x * 4294967297 = x + 2 ^ n * (x * 2 ^ m) by
      rw [Nat.mul_left_comm, ← h32, show (4294967297 : Nat) = 2 ^ 32 + 1 by decide, Nat.mul_add]; omega]
    rw [Nat.add_mul_div_left _ _ (Nat.two_pow_pos n), Nat.add_comm]
  have hlt : x / 2 ^ n < 2 ^ m := by
    rw [Nat.div_lt_iff_lt_mul (Nat.two_pow_pos n), Nat.mul_comm, ← h32]; exact hX
  rw [e1, e2, Nat.or_comm, ← Nat.shiftLeft_eq, ← Nat.shiftLeft_add_eq_or_of_lt hlt, Nat.shiftLeft_eq]
  have e3 : (x * 2 ^ m + x / 2 ^ n) % 4294967296 = ((x % 2 ^ n) * 2 ^ m + x / 2 ^ n) % 4294967296 := by
    rw [Nat.add_mod, show (4294967296 : Nat) = 2 ^ 32 by decide, e1, ← Nat.add_mod_mod, Nat.mod_mod, Nat.add_mod_mod]
  rw [e3]
  have h5 : x % 2 ^ n < 2 ^ n := Nat.mod_lt _ (Nat.two_pow_pos n)
  have h6 : (x % 2 ^ n) * 2 ^ m + 2 ^ m ≤ 2 ^ n * 2 ^ m := by rw [← Nat.succ_mul]; exact Nat.mul_le_mul_right _ h5
  rw [← h32] at h6
  have h7 : (2 : Nat) ^ 32 = 4294967296 := by decide
  rw [h7] at h6
  exact (Nat.mod_eq_of_lt (Nat.lt_of_lt_of_le (Nat.add_lt_add_left hlt _) h6)).symm

theorem xor_mod (a b : Nat) : (a ^^^ b) % 4294967296 = (a % 4294967296) ^^^ (b % 4294967296) := by
  rw [show (4294967296 : Nat) = 2 ^ 32 by decide]; exact Nat.xor_mod_two_pow
theorem rot3 (X : BitVec 32) (i j k : Nat) (hi : 0 < i ∧ i < 32) (hj : 0 < j ∧ j < 32) (hk : 0 < k ∧ k < 32) :
    (X.rotateRight i ^^^ X.rotateRight j ^^^ X.rotateRight k).toNat = (((X.toNat * 4294967297) >>> i) ^^^ ((X.toNat * 4294967297) >>> j) ^^^ ((X.toNat * 4294967297) >>> k)) % 4294967296 := by
  rw [BitVec.toNat_xor, BitVec.toNat_xor, rot_toNat X i hi, rot_toNat X j hj, rot_toNat X k hk, xor_mod, xor_mod]
theorem ch_eq (e f g : BitVec 32) : (e &&& f) ^^^ (~~~e &&& g) = ((f ^^^ g) &&& e) ^^^ g := by
  apply BitVec.eq_of_getLsbD_eq
  intro i hi
  simp only [BitVec.getLsbD_xor, BitVec.getLsbD_and, BitVec.getLsbD_not, hi, decide_true, Bool.true_and]
  cases e.getLsbD i <;> cases f.getLsbD i <;> cases g.getLsbD i <;> rfl
theorem maj_eq (a b c : BitVec 32) : (a &&& b) ^^^ (a &&& c) ^^^ (b &&& c) = (a &&& (b ^^^ c)) ^^^ (b &&& c) := by
  apply BitVec.eq_of_getLsbD_eq
  intro i hi
  simp only [BitVec.getLsbD_xor, BitVec.getLsbD_and]
  cases a.getLsbD i <;> cases b.getLsbD i <;> cases c.getLsbD i <;> rfl

def H8.n (s : H8) : N8 := ⟨s.a.toNat, s.b.toNat, s.c.toNat, s.d.toNat, s.e.toNat, s.f.toNat, s.g.toNat, s.h.toNat⟩
def rfr (K w : Nat → BitVec 32) (s : H8) (i : Nat) : Nat → H8
  | 0 => s
  | n + 1 => rfr K w (round (K i) (w i) s) (i + 1) n
theorem rfr_rounds (K w : Nat → BitVec 32) (s : H8) : ∀ n i, rfr K w (rounds K w s i) i n = rounds K w s (i + n)
  | 0, i => rfl
  | n + 1, i => by
    show rfr K w (rounds K w s (i + 1)) (i + 1) n = _
    rw [rfr_rounds K w s n (i + 1), Nat.add_right_comm, Nat.add_assoc]

theorem t1_toNat (K w : BitVec 32) (s : H8) : (t1 K w s).toNat = (s.h.toNat + (((s.e.toNat * 4294967297) >>> 6) ^^^ ((s.e.toNat * 4294967297) >>> 11) ^^^ ((s.e.toNat * 4294967297) >>> 25)) + (((s.f.toNat ^^^ s.g.toNat) &&& s.e.toNat) ^^^ s.g.toNat) + (K + w).toNat) % 4294967296 := by
  unfold t1
  rw [ch_eq]
  have h1 := rot3 s.e 6 11 25 (by omega) (by omega) (by omega)
  generalize hR : s.e.rotateRight 6 ^^^ s.e.rotateRight 11 ^^^ s.e.rotateRight 25 = R at *
  simp only [BitVec.toNat_add, BitVec.toNat_xor, BitVec.toNat_and, h1]
  omega
theorem t2_toNat (s : H8) : (t2 s).toNat = ((((s.a.toNat * 4294967297) >>> 2) ^^^ ((s.a.toNat * 4294967297) >>> 13) ^^^ ((s.a.toNat * 4294967297) >>> 22)) + ((s.a.toNat &&& (s.b.toNat ^^^ s.c.toNat)) ^^^ (s.b.toNat &&& s.c.toNat))) % 4294967296 := by
  unfold t2
  rw [maj_eq]
  have h1 := rot3 s.a 2 13 22 (by omega) (by omega) (by omega)
  generalize hR : s.a.rotateRight 2 ^^^ s.a.rotateRight 13 ^^^ s.a.rotateRight 22 = R at *
  simp only [BitVec.toNat_add, BitVec.toNat_xor, BitVec.toNat_and, h1]
  omega

noncomputable def N8.go (s : N8) (l : List Nat) : N8 := rF l s.a s.b s.c s.d s.e s.f s.g s.h
theorem rF_spec (K w : Nat → BitVec 32) : ∀ n i (s : H8), s.n.go ((List.range' i n).map fun t => (K t + w t).toNat) = (rfr K w s i n).n
  | 0, i, s => rfl
  | n + 1, i, s => by
    rw [List.range'_succ, List.map_cons]
    unfold N8.go
    rw [rF_cons]
    rw [show rfr K w s i (n + 1) = rfr K w (round (K i) (w i) s) (i + 1) n from rfl, ← rF_spec K w n (i + 1)]
    unfold N8.go
    have h1 : (round (K i) (w i) s).n = ⟨(t1 (K i) (w i) s + t2 s).toNat, s.a.toNat, s.b.toNat, s.c.toNat, (s.d + t1 (K i) (w i) s).toNat, s.e.toNat, s.f.toNat, s.g.toNat⟩ := rfl
    have ea : (t1 (K i) (w i) s + t2 s).toNat = ((t1 (K i) (w i) s).toNat + (((s.a.toNat * 4294967297) >>> 2) ^^^ ((s.a.toNat * 4294967297) >>> 13) ^^^ ((s.a.toNat * 4294967297) >>> 22)) + ((s.a.toNat &&& (s.b.toNat ^^^ s.c.toNat)) ^^^ (s.b.toNat &&& s.c.toNat))) % 4294967296 := by
      rw [BitVec.toNat_add, t2_toNat]; omega
    have ee : (s.d + t1 (K i) (w i) s).toNat = (s.d.toNat + (t1 (K i) (w i) s).toNat) % 4294967296 := BitVec.toNat_add _ _
    rw [h1]
    simp only [ea, ee, t1_toNat]
    rfl

/-! ### the words -/
def s0F (x : Nat) : Nat := Nat.xor (Nat.mod (Nat.xor (Nat.shiftRight (Nat.mul x 4294967297) 7) (Nat.shiftRight (Nat.mul x 4294967297) 18)) 4294967296) (Nat.shiftRight x 3)
def s1F (x : Nat) : Nat := Nat.xor (Nat.mod (Nat.xor (Nat.shiftRight (Nat.mul x 4294967297) 17) (Nat.shiftRight (Nat.mul x 4294967297) 19)) 4294967296) (Nat.shiftRight x 10)
noncomputable def schR (k : Nat) : List Nat → List Nat :=
  Nat.rec (motive := fun _ => List Nat → List Nat) (fun r => r) (fun _ ih r => force (Nat.mod (Nat.add (Nat.add (Nat.add (s1F (r.getD 1 0)) (r.getD 6 0)) (s0F (r.getD 14 0))) (r.getD 15 0)) 4294967296) fun x => ih (x :: r)) k
theorem s1_toNat (X : BitVec 32) : (X.rotateRight 17 ^^^ X.rotateRight 19 ^^^ X >>> 10).toNat = s1F X.toNat := by
  rw [BitVec.toNat_xor, BitVec.toNat_xor, rot_toNat X 17 (by omega), rot_toNat X 19 (by omega), ← xor_mod, BitVec.toNat_ushiftRight]; rfl
theorem s0_toNat (X : BitVec 32) : (X.rotateRight 7 ^^^ X.rotateRight 18 ^^^ X >>> 3).toNat = s0F X.toNat := by
  rw [BitVec.toNat_xor, BitVec.toNat_xor, rot_toNat X 7 (by omega), rot_toNat X 18 (by omega), ← xor_mod, BitVec.toNat_ushiftRight]; rfl
theorem wnext_toNat (w : Nat → BitVec 32) (t : Nat) : (wnext w t).toNat = (s1F (w (t - 2)).toNat + (w (t - 7)).toNat + s0F (w (t - 15)).toNat + (w (t - 16)).toNat) % 4294967296 := by
  unfold wnext
  simp only [BitVec.toNat_add, s1_toNat, s0_toNat]
  omega
def revW (w : Nat → BitVec 32) (i : Nat) : List Nat := (List.range i).reverse.map fun t => (w t).toNat
theorem revW_succ (w : Nat → BitVec 32) (i : Nat) : revW w (i + 1) = (w i).toNat :: revW w i := by
  unfold revW; rw [List.range_succ, List.reverse_append]; rfl
theorem revW_getD (w : Nat → BitVec 32) {i j : Nat} (h : j < i) : (revW w i).getD j 0 = (w (i - 1 - j)).toNat := by
  unfold revW
  rw [List.getD_eq_getElem?_getD, List.getElem?_map, List.getElem?_reverse (by simpa using h)]
  simp [show i - 1 - j < i by omega]
theorem schR_spec (w : Nat → BitVec 32) (hw : ∀ t, 16 ≤ t → t < 64 → w t = wnext w t) : ∀ k i, 16 ≤ i → i + k ≤ 64 → schR k (revW w i) = revW w (i + k)
  | 0, i, _, _ => rfl
  | k + 1, i, h, hk => by
    show force _ (fun x => schR k (x :: revW w i)) = _
    rw [force_eq]
    have h1 : Nat.mod (Nat.add (Nat.add (Nat.add (s1F ((revW w i).getD 1 0)) ((revW w i).getD 6 0)) (s0F ((revW w i).getD 14 0))) ((revW w i).getD 15 0)) 4294967296 = (w i).toNat := by
      rw [hw i h (by omega), wnext_toNat, revW_getD w (by omega), revW_getD w (by omega), revW_getD w (by omega), revW_getD w (by omega)]
      rw [show i - 1 - 1 = i - 2 by omega, show i - 1 - 6 = i - 7 by omega, show i - 1 - 14 = i - 15 by omega, show i - 1 - 15 = i - 16 by omega]
      rfl
    rw [h1, ← revW_succ, schR_spec w hw k (i + 1) (by omega) (by omega), Nat.add_right_comm, Nat.add_assoc]

theorem wext_keep (blk : Nat → BitVec 8) : ∀ d k t, t < 16 + k → wext blk (k + d) t = wext blk k t
  | 0, _, _, _ => rfl
  | d + 1, k, t, h => by
    show upd (wext blk (k + d)) (16 + (k + d)) _ t = _
    rw [upd_ne _ _ _ _ (by omega), wext_keep blk d k t h]
theorem wbeg_at (blk : Nat → BitVec 8) : ∀ n t, t < n → wbeg blk n t = wfst blk t
  | n + 1, t, h => by
    simp only [wbeg]
    by_cases ht : t = n
    · subst ht; rw [upd_same]
    · rw [upd_ne _ _ _ _ ht, wbeg_at blk n t (by omega)]
theorem wext_fst (blk : Nat → BitVec 8) (t : Nat) (h : t < 16) : wext blk 48 t = wfst blk t := by
  have := wext_keep blk 48 0 t (by omega)
  rw [Nat.zero_add] at this
  rw [this]; exact wbeg_at blk 16 t h
theorem wnext_congr {w w' : Nat → BitVec 32} {t : Nat} (h : ∀ j, j < t → w j = w' j) (ht : 16 ≤ t) : wnext w t = wnext w' t := by
  unfold wnext
  rw [h (t - 2) (by omega), h (t - 7) (by omega), h (t - 15) (by omega), h (t - 16) (by omega)]
theorem wext_next (blk : Nat → BitVec 8) (t : Nat) (h : 16 ≤ t) (h2 : t < 64) : wext blk 48 t = wnext (wext blk 48) t := by
  obtain ⟨k, rfl⟩ : ∃ k, t = 16 + k := ⟨t - 16, by omega⟩
  obtain ⟨d, hd⟩ : ∃ d, k + 1 + d = 48 := ⟨47 - k, by omega⟩
  have h1 := wext_keep blk d (k + 1) (16 + k) (by omega)
  rw [hd] at h1
  rw [h1]
  show upd (wext blk k) (16 + k) (wnext (wext blk k) (16 + k)) (16 + k) = _
  rw [upd_same]
  refine wnext_congr (fun j hj => ?_) (by omega)
  have h3 := wext_keep blk (1 + d) k j hj
  rw [show k + (1 + d) = 48 by omega] at h3
  exact h3.symm

/-- the words of a block, the last ahead -/
def wsR (blk : Nat → BitVec 8) : List Nat := (List.range 16).reverse.map fun t => (wfst blk t).toNat
theorem wsR_rev (blk : Nat → BitVec 8) : wsR blk = revW (wext blk 48) 16 := by
  unfold wsR revW
  refine List.map_congr_left fun t ht => ?_
  rw [wext_fst blk t (by simpa using ht)]
noncomputable def kws (kl : List Nat) (ws : List Nat) : List Nat := List.zipWith (fun k w => Nat.mod (Nat.add k w) 4294967296) kl (schR 48 ws).reverse
noncomputable def stepF (kw : List Nat) (s : N8) : N8 :=
  N8.rec (motive := fun _ => N8) (fun a b c d e f g h => N8.rec (motive := fun _ => N8) (fun a' b' c' d' e' f' g' h' =>
    force (Nat.mod (Nat.add a a') 4294967296) fun a => force (Nat.mod (Nat.add b b') 4294967296) fun b => force (Nat.mod (Nat.add c c') 4294967296) fun c => force (Nat.mod (Nat.add d d') 4294967296) fun d =>
    force (Nat.mod (Nat.add e e') 4294967296) fun e => force (Nat.mod (Nat.add f f') 4294967296) fun f => force (Nat.mod (Nat.add g g') 4294967296) fun g => force (Nat.mod (Nat.add h h') 4294967296) fun h => ⟨a, b, c, d, e, f, g, h⟩) (rF kw a b c d e f g h)) s
def kl256 : List Nat := [0x428a2f98, 0x71374491, 0xb5c0fbcf, 0xe9b5dba5, 0x3956c25b, 0x59f111f1, 0x923f82a4, 0xab1c5ed5,
  0xd807aa98, 0x12835b01, 0x243185be, 0x550c7dc3, 0x72be5d74, 0x80deb1fe, 0x9bdc06a7, 0xc19bf174,
  0xe49b69c1, 0xefbe4786, 0x0fc19dc6, 0x240ca1cc, 0x2de92c6f, 0x4a7484aa, 0x5cb0a9dc, 0x76f988da,
  0x983e5152, 0xa831c66d, 0xb00327c8, 0xbf597fc7, 0xc6e00bf3, 0xd5a79147, 0x06ca6351, 0x14292967,
  0x27b70a85, 0x2e1b2138, 0x4d2c6dfc, 0x53380d13, 0x650a7354, 0x766a0abb, 0x81c2c92e, 0x92722c85,
  0xa2bfe8a1, 0xa81a664b, 0xc24b8b70, 0xc76c51a3, 0xd192e819, 0xd6990624, 0xf40e3585, 0x106aa070,
  0x19a4c116, 0x1e376c08, 0x2748774c, 0x34b0bcb5, 0x391c0cb3, 0x4ed8aa4a, 0x5b9cca4f, 0x682e6ff3,
  0x748f82ee, 0x78a5636f, 0x84c87814, 0x8cc70208, 0x90befffa, 0xa4506ceb, 0xbef9a3f7, 0xc67178f2]
theorem kl256_eq : kl256 = (List.range 64).map fun t => (K256 t).toNat := by decide +kernel
theorem kws_eq (blk : Nat → BitVec 8) : kws kl256 (wsR blk) = (List.range' 0 64).map fun t => (K256 t + wext blk 48 t).toNat := by
  unfold kws
  rw [wsR_rev, schR_spec _ (wext_next blk) 48 16 (by omega) (by omega), kl256_eq]
  have h1 : (revW (wext blk 48) (16 + 48)).reverse = (List.range 64).map fun t => (wext blk 48 t).toNat := by
    unfold revW; rw [← List.map_reverse, List.reverse_reverse]
  rw [h1, List.zipWith_map, List.zipWith_self, ← List.range_eq_range']
  refine List.map_congr_left fun t _ => ?_
  exact (BitVec.toNat_add _ _).symm
def nOf (s : Nat → BitVec 32) : N8 := (H8.of s).n
theorem stepF_eq (l : List Nat) (s : N8) : stepF l s = ⟨(s.a + (s.go l).a) % 4294967296, (s.b + (s.go l).b) % 4294967296, (s.c + (s.go l).c) % 4294967296, (s.d + (s.go l).d) % 4294967296, (s.e + (s.go l).e) % 4294967296, (s.f + (s.go l).f) % 4294967296, (s.g + (s.go l).g) % 4294967296, (s.h + (s.go l).h) % 4294967296⟩ := by
  unfold stepF N8.go
  simp only [force_eq, nadd, nmod]
end Go.LW
