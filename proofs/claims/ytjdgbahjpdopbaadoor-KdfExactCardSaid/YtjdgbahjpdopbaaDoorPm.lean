import Derived.Test.YtjdgbahjpdopbaaDoorRSha
import Derived.Test.YtjdgbahjpdopbaaDoorRRef02
import Derived.Test.YtjdgbahjpdopbaaDoorRKdf
import Derived.Test.YtjdgbahjpdopbaaDoorRRef03
import Derived.Test.YtjdgbahjpdopbaaDoorEc

/-
  PLAIN (own work): what sha's functions compute, as functions of lists of bytes.
-/
namespace Go.Proofs.YtjdgbahjpdopbaaDoor
set_option linter.unusedSimpArgs false
set_option linter.unusedVariables false
set_option linter.unusedSectionVars false
open Go Go.LW

theorem iter_go {S X : Type} {step : S → S ⊕ X → Prop} (J : S → Prop) (Q : X → Prop) (μ : S → Nat)
    (h : ∀ s, J s → (∃ x, step s (.inr x) ∧ Q x) ∨ ∃ s', step s (.inl s') ∧ J s' ∧ μ s' < μ s) : ∀ n s, μ s < n → J s → ∃ x, Iter step s x ∧ Q x
  | 0, s, hn, _ => absurd hn (Nat.not_lt_zero _)
  | n + 1, s, hn, hJ => by
    rcases h s hJ with ⟨x, hx, hQ⟩ | ⟨s', hs, hJ', hm⟩
    · exact ⟨x, .done hx, hQ⟩
    · obtain ⟨x, hx, hQ⟩ := iter_go J Q μ h n s' (by omega) hJ'
      exact ⟨x, .more hs hx, hQ⟩
theorem lext {X Y : List Byte} (hl : X.length = Y.length) (h : ∀ q, q < X.length → lit X q = lit Y q) : X = Y := by
  rw [← lit_of X, ← lit_of Y, ← hl]
  exact List.map_congr_left fun q hq => h q (List.mem_range.1 hq)
theorem dl_congr {m : Nat} {f g : Nat → Byte} (h : ∀ q, q < m → f q = g q) : dl m f = dl m g := List.map_congr_left fun q hq => h q (List.mem_range.1 hq)

/-! ### one block -/
theorem rot_mask : ∀ n : Fin 32, 0 < n.val → (BitVec.ofInt 64 (-(n.val : Int)) &&& 31#64).toNat = 32 - n.val ∧ ((32#64) - (BitVec.ofInt 64 (-(n.val : Int)) &&& 31#64)).toNat = n.val := by decide +kernel
theorem right_ok (n : Nat) (h0 : 0 < n) (h1 : n < 32) (x : BitVec 32) : sha_right (n : Int) x (x.rotateRight n) := by
  refine ⟨by omega, _, rfl, ?_⟩
  obtain ⟨e1, e2⟩ := rot_mask ⟨n, h1⟩ h0
  rw [e1, e2, BitVec.rotateRight_def, Nat.mod_eq_of_lt h1, BitVec.or_comm]
theorem lit8 (s : H8) : ∀ i, i < 8 → lit [s.a, s.b, s.c, s.d, s.e, s.f, s.g, s.h] i = s.at i := fun i hi => by
  rcases (by omega : i = 0 ∨ i = 1 ∨ i = 2 ∨ i = 3 ∨ i = 4 ∨ i = 5 ∨ i = 6 ∨ i = 7) with rfl | rfl | rfl | rfl | rfl | rfl | rfl | rfl <;> rfl
theorem comp_ok (st : Nat → BitVec 32) (blk : Nat → BitVec 8) : sha_Compress st blk (compress K256 st blk) := by
  refine ⟨wbeg blk 16, ?_, wext blk 48, ?_, ?_⟩
  · refine Iter.count (fun i => (i, wbeg blk i)) 16 (fun i hi => ?_) ?_
    · unfold sha_Compress_l0; dsimp only; rw [if_pos hi]; rfl
    · unfold sha_Compress_l0; dsimp only; rw [if_neg (by omega)]
  · refine Iter.count (fun i => (16 + i, wext blk i)) 48 (fun i hi => ?_) ?_
    · unfold sha_Compress_l1; dsimp only
      rw [if_pos (by omega), show (((16 + i : Nat) : Int) - 2).toNat = 16 + i - 2 by omega, show (((16 + i : Nat) : Int) - 15).toNat = 16 + i - 15 by omega,
        show (((16 + i : Nat) : Int) - 7).toNat = 16 + i - 7 by omega, show (((16 + i : Nat) : Int) - 16).toNat = 16 + i - 16 by omega]
      exact ⟨by omega, by omega, by omega, by omega, _, right_ok 17 (by decide) (by decide) _, _, right_ok 19 (by decide) (by decide) _, _, right_ok 7 (by decide) (by decide) _, _, right_ok 18 (by decide) (by decide) _, rfl⟩
    · unfold sha_Compress_l1; dsimp only; rw [if_neg (by omega)]
  · refine ⟨ (rounds K256 (wext blk 48) (H8.of st) 64).a, (rounds K256 (wext blk 48) (H8.of st) 64).b, (rounds K256 (wext blk 48) (H8.of st) 64).c, (rounds K256 (wext blk 48) (H8.of st) 64).d, (rounds K256 (wext blk 48) (H8.of st) 64).e, (rounds K256 (wext blk 48) (H8.of st) 64).f, (rounds K256 (wext blk 48) (H8.of st) 64).g, (rounds K256 (wext blk 48) (H8.of st) 64).h, ?_, addTo st (rounds K256 (wext blk 48) (H8.of st) 64).at 8, ?_, rfl⟩
    · exact Iter.count (fun i =>
        ((rounds K256 (wext blk 48) (H8.of st) i).a, (rounds K256 (wext blk 48) (H8.of st) i).b, (rounds K256 (wext blk 48) (H8.of st) i).c, (rounds K256 (wext blk 48) (H8.of st) i).d, (rounds K256 (wext blk 48) (H8.of st) i).e, (rounds K256 (wext blk 48) (H8.of st) i).f, (rounds K256 (wext blk 48) (H8.of st) i).g, (rounds K256 (wext blk 48) (H8.of st) i).h, i)) 64 (fun i hi => by
        unfold sha_Compress_l2; dsimp only; rw [if_pos hi]
        exact ⟨_, right_ok 6 (by decide) (by decide) _, _, right_ok 11 (by decide) (by decide) _, _, right_ok 25 (by decide) (by decide) _, _, right_ok 2 (by decide) (by decide) _, _, right_ok 13 (by decide) (by decide) _, _, right_ok 22 (by decide) (by decide) _, rfl⟩) (by
        unfold sha_Compress_l2; dsimp only; rw [if_neg (by omega)])
    · refine Iter.count (fun i => (i, addTo st (rounds K256 (wext blk 48) (H8.of st) 64).at i)) 8 (fun i hi => ?_) ?_
      · unfold sha_Compress_l3; dsimp only; rw [if_pos hi, lit8 _ i hi]; rfl
      · unfold sha_Compress_l3; dsimp only; rw [if_neg (by omega)]

/-! ### Write -/
def Hold (X : List Byte) (st : Nat → BitVec 32) (blk : Nat → BitVec 8) : Prop := HashIs K256 H256 X.length (lit X) st blk
theorem Hold.nil : Hold [] H256 (fun _ => 0#8) := HashIs.zero _ _ _ _
theorem tmod_nat (N : Nat) : ((N : Int).tmod 64) = ((N % 64 : Nat) : Int) := by rw [Int.tmod_eq_emod_of_nonneg (by omega)]; omega
theorem spl_lit (X Y : List Byte) {c : Nat} (hc : c ≤ Y.length) : ∀ q, q < X.length + c → spl (lit X) X.length c (lit Y) q = lit (X ++ seg Y 0 c) q := fun q hq => by
  rw [lit_app]
  by_cases h : q < X.length
  · rw [if_pos h, spl_out _ _ _ _ _ (by omega)]
  · rw [if_neg h, spl_in _ _ _ _ _ (by omega), lit_seg hc (by omega), Nat.zero_add]
theorem write_ok {X Y : List Byte} {st : Nat → BitVec 32} {blk : Nat → BitVec 8} (h : Hold X st blk) (hl : X.length + Y.length < 4611686018427387904) :
    ∃ st' blk', sha_Hash_Write st blk (X.length : Int) Y (st', blk', ((X ++ Y).length : Int)) ∧ Hold (X ++ Y) st' blk' := by
  obtain ⟨⟨st', blk', n'⟩, hI, hn, hH⟩ := iter_go (step := sha_Hash_Write_l0)
    (fun s : (List Byte) × (Nat → BitVec 32) × (Nat → BitVec 8) × Int => ∃ Z, Z ++ s.1 = X ++ Y ∧ Hold Z s.2.1 s.2.2.1 ∧ s.2.2.2 = (Z.length : Int))
    (fun x : (Nat → BitVec 32) × (Nat → BitVec 8) × Int => x.2.2 = ((X ++ Y).length : Int) ∧ Hold (X ++ Y) x.1 x.2.1) (fun s => s.1.length) (by
    rintro ⟨b, st, blk, n⟩ ⟨Z, hZ, hH, rfl⟩
    have hZl : Z.length + b.length = X.length + Y.length := by rw [← List.length_append, hZ, List.length_append]
    unfold sha_Hash_Write_l0
    dsimp only at hZ hH ⊢
    by_cases hb : 0 < b.length
    · refine .inr ?_
      rw [tmod_nat, show ((Z.length % 64 : Nat) : Int).toNat = Z.length % 64 from rfl]
      have hm : min b.length (64 - Z.length % 64) ≤ b.length := Nat.min_le_left _ _
      have hm2 : min b.length (64 - Z.length % 64) ≤ 64 - Z.length % 64 := Nat.min_le_right _ _
      have hm3 : 0 < min b.length (64 - Z.length % 64) := by omega
      generalize hc : min b.length (64 - Z.length % 64) = c at hm hm2 hm3
      have e1 : (Z.length : Int) + (c : Int) = ((Z.length + c : Nat) : Int) := by omega
      have hsl : (seg b 0 c).length = c := by rw [seg_length hm]; omega
      have hll : (Z ++ seg b 0 c).length = Z.length + c := by rw [List.length_append, hsl]
      have hcat : (Z ++ seg b 0 c) ++ seg b c b.length = X ++ Y := by rw [List.append_assoc, seg_app ⟨by omega, hm, Nat.le_refl _⟩, seg_all]; exact hZ
      have hlt : (seg b c b.length).length < b.length := by rw [seg_length (Nat.le_refl _)]; omega
      simp only [if_pos hb]
      rw [e1, tmod_nat]
      by_cases hw : (Z.length + c) % 64 = 0
      · refine ⟨(seg b c b.length, compress K256 st (spl blk (Z.length % 64) c (lit b)), spl blk (Z.length % 64) c (lit b), ((Z.length + c : Nat) : Int)), ⟨by omega, by omega, by omega, by omega, ?_⟩, ⟨_, hcat, ?_, ?_⟩, hlt⟩
        · rw [if_pos (by omega)]; exact ⟨_, comp_ok _ _, rfl⟩
        · have := HashIs.congr (HashIs.whole (g := lit b) hH (show Z.length % 64 + c = 64 by omega)) (spl_lit Z b hm)
          unfold Hold; rw [hll]; exact this
        · rw [hll]
      · refine ⟨(seg b c b.length, st, spl blk (Z.length % 64) c (lit b), ((Z.length + c : Nat) : Int)), ⟨by omega, by omega, by omega, by omega, ?_⟩, ⟨_, hcat, ?_, ?_⟩, hlt⟩
        · rw [if_neg (by omega)]
        · have := HashIs.congr (HashIs.part (g := lit b) hH (show Z.length % 64 + c < 64 by omega)) (spl_lit Z b hm)
          unfold Hold; rw [hll]; exact this
        · rw [hll]
    · refine .inl ⟨_, by rw [if_neg hb], ?_⟩
      obtain rfl : b = [] := List.length_eq_zero_iff.1 (by omega)
      rw [List.append_nil] at hZ
      subst hZ
      exact ⟨rfl, hH⟩) (Y.length + 1) (Y, st, blk, (X.length : Int)) (Nat.lt_succ_self _) ⟨X, rfl, h, rfl⟩
  dsimp only at hn hH
  subst hn
  exact ⟨st', blk', ⟨_, _, _, hI, rfl⟩, hH⟩

/-! ### Sum -/
def lenb (N i : Nat) : Byte := (((8#64) * (BitVec.ofNat 64 N)) >>> (56 - 8 * i)).setWidth 8
def pad0 (X : List Byte) : List Byte := X ++ 128#8 :: List.replicate ((119 - X.length % 64) % 64) 0#8
def padB (X : List Byte) : List Byte := pad0 X ++ (List.range 8).map (lenb X.length)
def shaL (X : List Byte) : Nat → Byte := dgb (hstN K256 H256 (lit (padB X)) ((padB X).length / 64)) 8
theorem pad0_length (X : List Byte) : (pad0 X).length = X.length + 1 + (119 - X.length % 64) % 64 := by
  unfold pad0; rw [List.length_append, List.length_cons, List.length_replicate]; omega
theorem padB_length (X : List Byte) : (padB X).length = X.length + 9 + (119 - X.length % 64) % 64 := by
  unfold padB; rw [List.length_append, pad0_length, List.length_map, List.length_range]; omega
theorem dgb_congr {s s' : Nat → BitVec 32} : ∀ k, (∀ i, i < k → s i = s' i) → dgb s k = dgb s' k
  | 0, _ => rfl
  | k + 1, h => by simp only [dgb]; rw [dgb_congr k fun i hi => h i (by omega), h k (by omega)]
theorem sumdig_ok {X : List Byte} {st : Nat → BitVec 32} {blk : Nat → BitVec 8} (h : Hold X st blk) (hl : X.length < 2305843009213693952) :
    sha_Hash_Sum st blk (X.length : Int) (shaL X) := by
  obtain ⟨s1, b1, w1, h1⟩ := write_ok (Y := [128#8]) h (by simp only [List.length_cons, List.length_nil]; omega)
  refine ⟨_, _, _, rfl, _, _, _, w1, ?_⟩
  obtain ⟨⟨s2, b2, n2⟩, hI, hn, h2⟩ := iter_go (step := sha_Hash_Sum_l0)
    (fun s : (Nat → BitVec 32) × (Nat → BitVec 8) × Int => ∃ k, k ≤ (119 - X.length % 64) % 64 ∧ Hold (X ++ 128#8 :: List.replicate k 0#8) s.1 s.2.1 ∧ s.2.2 = ((X.length + 1 + k : Nat) : Int))
    (fun x : (Nat → BitVec 32) × (Nat → BitVec 8) × Int => x.2.2 = ((pad0 X).length : Int) ∧ Hold (pad0 X) x.1 x.2.1) (fun s => 1000000 + X.length - s.2.2.toNat) (by
    rintro ⟨st, blk, n⟩ ⟨k, hk, hH, hn⟩
    dsimp only at hH hn ⊢
    subst hn
    unfold sha_Hash_Sum_l0
    dsimp only
    rw [tmod_nat]
    have hL : (X ++ 128#8 :: List.replicate k 0#8).length = X.length + 1 + k := by rw [List.length_append, List.length_cons, List.length_replicate]; omega
    by_cases hw : (X.length + 1 + k) % 64 = 56
    · refine .inl ⟨_, by rw [if_neg (by omega)], ?_⟩
      have : k = (119 - X.length % 64) % 64 := by omega
      dsimp only
      rw [pad0_length, ← this]
      refine ⟨rfl, ?_⟩
      unfold pad0; rw [← this]; exact hH
    · obtain ⟨s3, b3, w3, h3⟩ := write_ok (Y := [0#8]) hH (by rw [hL, List.length_cons, List.length_nil]; omega)
      rw [hL] at w3
      have e3 : (X ++ 128#8 :: List.replicate k 0#8) ++ [0#8] = X ++ 128#8 :: List.replicate (k + 1) 0#8 := by
        rw [List.append_assoc, List.cons_append, ← List.replicate_succ']
      rw [e3] at w3 h3
      refine .inr ⟨_, by rw [if_pos (by omega)]; exact ⟨_, _, _, w3, rfl⟩, ⟨k + 1, by omega, h3, ?_⟩, ?_⟩
      · dsimp only; rw [List.length_append, List.length_cons, List.length_replicate]; omega
      · dsimp only; rw [List.length_append, List.length_cons, List.length_replicate]; omega) (1000001 + X.length) (s1, b1, ((X ++ [128#8]).length : Int)) (by dsimp only; omega) ⟨0, Nat.zero_le _, h1, by dsimp only; rw [List.length_append]; rfl⟩
  dsimp only at hn h2
  subst hn
  refine ⟨_, _, _, hI, ?_⟩
  obtain ⟨⟨s4, b4, n4⟩, hI4, hn4, h4⟩ := iter_go (step := sha_Hash_Sum_l1 (X.length : Int))
    (fun s : Nat × (Nat → BitVec 32) × (Nat → BitVec 8) × Int => s.1 ≤ 8 ∧ Hold (pad0 X ++ (List.range s.1).map (lenb X.length)) s.2.1 s.2.2.1 ∧ s.2.2.2 = (((pad0 X).length + s.1 : Nat) : Int))
    (fun x : (Nat → BitVec 32) × (Nat → BitVec 8) × Int => x.2.2 = ((padB X).length : Int) ∧ Hold (padB X) x.1 x.2.1) (fun s => 8 - s.1) (by
    rintro ⟨t, st, blk, n⟩ ⟨ht, hH, hn⟩
    dsimp only at ht hH hn ⊢
    subst hn
    unfold sha_Hash_Sum_l1
    dsimp only
    have hL : (pad0 X ++ (List.range t).map (lenb X.length)).length = (pad0 X).length + t := by rw [List.length_append, List.length_map, List.length_range]
    by_cases hw : t < 8
    · obtain ⟨s3, b3, w3, h3⟩ := write_ok (Y := [lenb X.length t]) hH (by rw [hL, List.length_cons, List.length_nil, pad0_length]; omega)
      rw [hL] at w3
      have e3 : (pad0 X ++ (List.range t).map (lenb X.length)) ++ [lenb X.length t] = pad0 X ++ (List.range (t + 1)).map (lenb X.length) := by
        rw [List.append_assoc, List.range_succ, List.map_append]; rfl
      rw [e3] at w3 h3
      refine .inr ⟨_, by rw [if_pos hw]; exact ⟨_, _, _, by simpa only [lenb, BitVec.ofInt_natCast] using w3, rfl⟩, ⟨by dsimp only; omega, h3, ?_⟩, by dsimp only; omega⟩
      dsimp only; rw [List.length_append, List.length_map, List.length_range]
    · refine .inl ⟨_, by rw [if_neg hw], ?_⟩
      obtain rfl : t = 8 := by omega
      exact ⟨by dsimp only; unfold padB; rw [List.length_append, List.length_map, List.length_range], hH⟩) 9 (0, s2, b2, ((pad0 X).length : Int)) (by dsimp only; omega) ⟨Nat.zero_le _, by simpa using h2, rfl⟩
  dsimp only at hn4 h4
  subst hn4
  refine ⟨_, _, _, hI4, dgb s4 8, ?_, ?_⟩
  · refine Iter.count (fun i => (i, dgb s4 i)) 8 (fun i hi => ?_) ?_
    · unfold sha_Hash_Sum_l2; dsimp only; rw [if_pos hi]; rfl
    · unfold sha_Hash_Sum_l2; dsimp only; rw [if_neg (by omega)]
  · exact dgb_congr 8 fun i hi => (h4.st_ i hi).symm
theorem flatten_take {P : List (List Byte)} {t : Nat} (h : t < P.length) : (P.take (t + 1)).flatten = (P.take t).flatten ++ P.getD t [] := by
  rw [List.take_succ_eq_append_getElem h, List.flatten_append]
  simp [List.getD, h]
theorem flatten_len (P : List (List Byte)) (t : Nat) : (P.take t).flatten.length ≤ P.flatten.length := by
  conv => rhs; rw [← List.take_append_drop t P, List.flatten_append, List.length_append]
  omega
theorem sum_ok {P : List (List Byte)} (hp : P.length < 4611686018427387904) (hl : P.flatten.length < 2305843009213693952) : sha_Sum P (shaL P.flatten) := by
  refine ⟨_, _, _, rfl, ?_⟩
  obtain ⟨⟨s2, b2, n2⟩, hI, hn, h2⟩ := iter_go (step := sha_Sum_l0 P)
    (fun s : Nat × (Nat → BitVec 32) × (Nat → BitVec 8) × Int => s.1 ≤ P.length ∧ Hold (P.take s.1).flatten s.2.1 s.2.2.1 ∧ s.2.2.2 = ((P.take s.1).flatten.length : Int))
    (fun x : (Nat → BitVec 32) × (Nat → BitVec 8) × Int => x.2.2 = (P.flatten.length : Int) ∧ Hold P.flatten x.1 x.2.1) (fun s => P.length - s.1) (by
    rintro ⟨t, st, blk, n⟩ ⟨ht, hH, hn⟩
    dsimp only at ht hH hn ⊢
    subst hn
    unfold sha_Sum_l0
    dsimp only
    by_cases hw : t < P.length
    · have hf := flatten_take hw
      have hfl := flatten_len P (t + 1)
      rw [hf, List.length_append] at hfl
      obtain ⟨s3, b3, w3, h3⟩ := write_ok (Y := P.getD t []) hH (by omega)
      rw [← hf] at w3 h3
      exact .inr ⟨_, by rw [if_pos hw]; exact ⟨hw, _, _, _, w3, by omega, rfl⟩, ⟨by dsimp only; omega, h3, rfl⟩, by dsimp only; omega⟩
    · refine .inl ⟨_, by rw [if_neg hw], ?_⟩
      obtain rfl : t = P.length := by omega
      rw [List.take_length] at hH ⊢
      exact ⟨rfl, hH⟩) (P.length + 1) (0, H256, (fun _ => 0#8), ((0 : Nat) : Int)) (by dsimp only; omega) ⟨Nat.zero_le _, Hold.nil, rfl⟩
  dsimp only at hn h2
  subst hn
  exact ⟨_, _, _, hI, _, sumdig_ok h2 hl, rfl⟩
end Go.Proofs.YtjdgbahjpdopbaaDoor

/-
  PLAIN (own work): the document's SHA-256 (words as numbers below 2^32 in 64 bits, turned by division) is the code's.
-/
namespace Go.Proofs.YtjdgbahjpdopbaaDoor
set_option linter.unusedSimpArgs false
set_option linter.unusedVariables false
set_option linter.unusedSectionVars false
open Go Go.LW

def wdR (x : BitVec 32) : BitVec 64 := x.setWidth 64
theorem wdR_toNat (x : BitVec 32) : (wdR x).toNat = x.toNat := by
  unfold wdR; rw [BitVec.toNat_setWidth]; have := x.isLt; omega
theorem or_add {a b i : Nat} (h : b < 2 ^ i) : a * 2 ^ i ||| b = a * 2 ^ i + b := by
  rw [← Nat.shiftLeft_eq, Nat.shiftLeft_add_eq_or_of_lt h]
theorem rot1 (x : BitVec 32) : wdR x / 2#64 + wdR x % 2#64 * 2147483648#64 = wdR (x.rotateRight 1) := by
  apply BitVec.eq_of_toNat_eq
  have hx := x.isLt
  rw [wdR_toNat, BitVec.toNat_rotateRight, BitVec.toNat_add, BitVec.toNat_mul, BitVec.toNat_umod, BitVec.toNat_udiv, wdR_toNat]
  have e : x.toNat <<< (32 - 1 % 32) % 2 ^ 32 = (x.toNat % 2) * 2 ^ 31 := by
    show x.toNat <<< 31 % 2 ^ 32 = _
    rw [Nat.shiftLeft_eq]; simp only [Nat.reducePow] at hx ⊢; omega
  have e2 : x.toNat >>> (1 % 32) = x.toNat / 2 := rfl
  rw [e, e2, Nat.or_comm, or_add (by omega)]
  simp only [BitVec.toNat_ofNat, Nat.reducePow, Nat.reduceMod] at hx ⊢
  omega
theorem rot_succ (x : BitVec 32) {n : Nat} (h : n + 1 < 32) : (x.rotateRight n).rotateRight 1 = x.rotateRight (n + 1) := by
  apply BitVec.eq_of_getLsbD_eq
  intro i hi
  rw [BitVec.getLsbD_rotateRight, BitVec.getLsbD_rotateRight, BitVec.getLsbD_rotateRight, BitVec.getLsbD_rotateRight, Nat.mod_eq_of_lt (show n + 1 < 32 by omega), Nat.mod_eq_of_lt (show n < 32 by omega), Nat.mod_eq_of_lt (show 1 < 32 by decide)]
  simp only [Bool.cond_decide]
  by_cases h1 : i < 31
  · rw [if_pos (by omega)]
    by_cases h2 : 1 + i < 32 - n
    · rw [if_pos h2, if_pos (by omega)]; congr 1; omega
    · rw [if_neg h2, if_neg (by omega)]
      rw [decide_eq_true (show 1 + i < 32 by omega), decide_eq_true (show i < 32 by omega)]
      congr 2; omega
  · obtain rfl : i = 31 := by omega
    rw [if_neg (by omega)]
    by_cases h2 : 31 - (32 - 1) < 32 - n
    · rw [if_pos h2, if_neg (by omega)]
      congr 2; omega
    · omega
theorem rot_zero (x : BitVec 32) : x.rotateRight 0 = x := by
  apply BitVec.eq_of_getLsbD_eq
  intro i hi
  rw [BitVec.getLsbD_rotateRight]
  simp only [Bool.cond_decide]
  rw [if_pos (by omega)]
  congr 1; omega
theorem turn_ok (n : Nat) (h : n < 32) (x : BitVec 32) : letheref02_turn (n : Int) (wdR x) (wdR (x.rotateRight n)) := by
  refine ⟨_, ?_, rfl⟩
  have key : Iter (letheref02_turn_l0 (n : Int)) (wdR (x.rotateRight 0), 0) (wdR (x.rotateRight n)) :=
    Iter.count (fun i => (wdR (x.rotateRight i), i)) n (fun i hi => by
      unfold letheref02_turn_l0; dsimp only
      rw [if_pos (by omega), rot1, rot_succ x (by omega)]
      exact ⟨by omega, rfl⟩) (by
      unfold letheref02_turn_l0; dsimp only; rw [if_neg (by omega)])
  rwa [rot_zero] at key
theorem move_ok (n : Nat) (h : n < 32) (x : BitVec 32) : letheref02_move (n : Int) (wdR x) (wdR (x >>> n)) := by
  refine ⟨_, ?_, rfl⟩
  have key : Iter (letheref02_move_l0 (n : Int)) (wdR (x >>> 0), 0) (wdR (x >>> n)) :=
    Iter.count (fun i => (wdR (x >>> i), i)) n (fun i hi => by
      unfold letheref02_move_l0; dsimp only
      have e : wdR (x >>> i) / 2#64 = wdR (x >>> (i + 1)) := by
        apply BitVec.eq_of_toNat_eq
        rw [BitVec.toNat_udiv, wdR_toNat, wdR_toNat, BitVec.toNat_ushiftRight, BitVec.toNat_ushiftRight, Nat.shiftRight_succ]; rfl
      rw [if_pos (by omega), e]
      exact ⟨by omega, rfl⟩) (by
      unfold letheref02_move_l0; dsimp only; rw [if_neg (by omega)])
  rwa [BitVec.ushiftRight_zero] at key

/-! ### sums -/
theorem wd_xor (a b : BitVec 32) : wdR a ^^^ wdR b = wdR (a ^^^ b) := by unfold wdR; rw [BitVec.setWidth_xor]
theorem wd_and (a b : BitVec 32) : wdR a &&& wdR b = wdR (a &&& b) := by unfold wdR; rw [BitVec.setWidth_and]
theorem wd_not (a : BitVec 32) : 4294967295#64 - wdR a = wdR (~~~a) := by
  apply BitVec.eq_of_toNat_eq
  have ha := a.isLt
  rw [BitVec.toNat_sub, wdR_toNat, wdR_toNat, BitVec.toNat_not]
  simp only [BitVec.toNat_ofNat]
  omega
theorem sum4 (a b c d : BitVec 32) : (wdR a + wdR b + wdR c + wdR d) % 4294967296#64 = wdR (a + b + c + d) := by
  apply BitVec.eq_of_toNat_eq
  have := a.isLt; have := b.isLt; have := c.isLt; have := d.isLt
  simp only [BitVec.toNat_umod, BitVec.toNat_add, wdR_toNat, BitVec.toNat_ofNat, Nat.reducePow, Nat.reduceMod]
  omega
theorem sum6 (x a b c d e : BitVec 32) : (wdR x + (wdR a + wdR b + wdR c + wdR d + wdR e)) % 4294967296#64 = wdR (x + (a + b + c + d + e)) := by
  apply BitVec.eq_of_toNat_eq
  have := a.isLt; have := b.isLt; have := c.isLt; have := d.isLt; have := e.isLt; have := x.isLt
  simp only [BitVec.toNat_umod, BitVec.toNat_add, wdR_toNat, BitVec.toNat_ofNat, Nat.reducePow, Nat.reduceMod]
  omega
theorem sum7 (a b c d e f g : BitVec 32) : (wdR a + wdR b + wdR c + wdR d + wdR e + (wdR f + wdR g)) % 4294967296#64 = wdR (a + b + c + d + e + (f + g)) := by
  apply BitVec.eq_of_toNat_eq
  have := a.isLt; have := b.isLt; have := c.isLt; have := d.isLt; have := e.isLt; have := f.isLt; have := g.isLt
  simp only [BitVec.toNat_umod, BitVec.toNat_add, wdR_toNat, BitVec.toNat_ofNat, Nat.reducePow, Nat.reduceMod]
  omega
theorem sum2 (a b : BitVec 32) : ((a.setWidth 64 + wdR b) % 4294967296#64).setWidth 32 = a + b := by
  apply BitVec.eq_of_toNat_eq
  have := a.isLt; have := b.isLt
  simp only [BitVec.toNat_setWidth, BitVec.toNat_umod, BitVec.toNat_add, wdR_toNat, BitVec.toNat_ofNat, Nat.reducePow, Nat.reduceMod]
  omega

/-! ### the schedule -/
def pkw (blk : Nat → Byte) (t : Nat) : Nat → BitVec 64
  | 0 => 0#64
  | k + 1 => pkw blk t k * 256#64 + (blk (4 * t + k)).setWidth 64
theorem be32_toNat (a b c d : BitVec 8) : (be32 a b c d).toNat = ((a.toNat * 256 + b.toNat) * 256 + c.toNat) * 256 + d.toNat := by
  have ha := a.isLt; have hb := b.isLt; have hc := c.isLt; have hd := d.isLt
  unfold be32
  simp only [BitVec.toNat_or, BitVec.toNat_shiftLeft, BitVec.toNat_setWidth, Nat.shiftLeft_eq]
  rw [Nat.mod_eq_of_lt (show a.toNat < 2 ^ 32 by omega), Nat.mod_eq_of_lt (show b.toNat < 2 ^ 32 by omega), Nat.mod_eq_of_lt (show c.toNat < 2 ^ 32 by omega), Nat.mod_eq_of_lt (show d.toNat < 2 ^ 32 by omega),
    Nat.mod_eq_of_lt (show a.toNat * 2 ^ 24 < 2 ^ 32 by omega), Nat.mod_eq_of_lt (show b.toNat * 2 ^ 16 < 2 ^ 32 by omega), Nat.mod_eq_of_lt (show c.toNat * 2 ^ 8 < 2 ^ 32 by omega)]
  rw [or_add (show b.toNat * 2 ^ 16 < 2 ^ 24 by omega), show a.toNat * 2 ^ 24 + b.toNat * 2 ^ 16 = (a.toNat * 2 ^ 8 + b.toNat) * 2 ^ 16 by omega, or_add (show c.toNat * 2 ^ 8 < 2 ^ 16 by omega),
    show (a.toNat * 2 ^ 8 + b.toNat) * 2 ^ 16 + c.toNat * 2 ^ 8 = ((a.toNat * 2 ^ 8 + b.toNat) * 2 ^ 8 + c.toNat) * 2 ^ 8 by omega, or_add (show d.toNat < 2 ^ 8 by omega)]
theorem pkw4 (blk : Nat → Byte) (t : Nat) : pkw blk t 4 = wdR (wfst blk t) := by
  apply BitVec.eq_of_toNat_eq
  rw [wdR_toNat]
  unfold wfst
  rw [be32_toNat]
  have h0 := (blk (4 * t)).isLt; have h1 := (blk (4 * t + 1)).isLt; have h2 := (blk (4 * t + 2)).isLt; have h3 := (blk (4 * t + 3)).isLt
  simp only [pkw, BitVec.toNat_add, BitVec.toNat_mul, BitVec.toNat_setWidth, BitVec.toNat_ofNat, Nat.add_zero]
  omega
theorem upd_self {α : Type} {m : Nat → α} {t : Nat} {v : α} (h : m t = v) : upd m t v = m := by
  funext q; rw [upd_at]; by_cases hq : q = t
  · subst hq; rw [if_pos rfl, h]
  · rw [if_neg hq]
theorem upd_upd {α : Type} {m : Nat → α} {t : Nat} {v u : α} : upd (upd m t v) t u = upd m t u := by
  funext q; rw [upd_at, upd_at, upd_at]; by_cases hq : q = t
  · rw [if_pos hq, if_pos hq]
  · rw [if_neg hq, if_neg hq, if_neg hq]
theorem wbeg_out (blk : Nat → Byte) : ∀ t q, t ≤ q → wbeg blk t q = 0#32
  | 0, _, _ => rfl
  | t + 1, q, h => by
    show upd (wbeg blk t) t _ q = _
    rw [upd_ne _ _ _ _ (by omega)]; exact wbeg_out blk t q (by omega)
theorem wd_upd (m : Nat → BitVec 32) (t : Nat) (v : BitVec 32) : upd (fun q => wdR (m q)) t (wdR v) = fun q => wdR (upd m t v q) := by
  funext q; rw [upd_at, upd_at]; by_cases hq : q = t
  · rw [if_pos hq, if_pos hq]
  · rw [if_neg hq, if_neg hq]
theorem sched_ok (blk : Nat → Byte) : letheref02_schedule blk (fun q => wdR (wext blk 48 q)) := by
  refine ⟨fun q => wdR (wbeg blk 16 q), ?_, _, ?_, rfl⟩
  · refine Iter.count (fun i => (i, fun q => wdR (wbeg blk i q))) 16 (fun i hi => ?_) ?_
    · unfold letheref02_schedule_l0; dsimp only
      rw [if_pos hi]
      refine ⟨upd (fun q => wdR (wbeg blk i q)) i (pkw blk i 4), ?_, ?_⟩
      · have key : Iter (letheref02_schedule_l1 blk i) (0, upd (fun q => wdR (wbeg blk i q)) i (pkw blk i 0)) (upd (fun q => wdR (wbeg blk i q)) i (pkw blk i 4)) :=
          Iter.count (fun k => (k, upd (fun q => wdR (wbeg blk i q)) i (pkw blk i k))) 4 (fun k hk => by
            unfold letheref02_schedule_l1; dsimp only
            rw [if_pos hk, upd_same, upd_upd]; rfl) (by
            unfold letheref02_schedule_l1; dsimp only; rw [if_neg (by omega)])
        rwa [upd_self (show wdR (wbeg blk i i) = pkw blk i 0 by rw [wbeg_out blk i i (Nat.le_refl _)]; rfl)] at key
      · rw [pkw4, wd_upd]; rfl
    · unfold letheref02_schedule_l0; dsimp only; rw [if_neg (by omega)]
  · refine Iter.count (fun i => (16 + i, fun q => wdR (wext blk i q))) 48 (fun i hi => ?_) ?_
    · unfold letheref02_schedule_l2; dsimp only
      rw [if_pos (by omega), show (((16 + i : Nat) : Int) - 2).toNat = 16 + i - 2 by omega, show (((16 + i : Nat) : Int) - 15).toNat = 16 + i - 15 by omega,
        show (((16 + i : Nat) : Int) - 7).toNat = 16 + i - 7 by omega, show (((16 + i : Nat) : Int) - 16).toNat = 16 + i - 16 by omega]
      refine ⟨by omega, by omega, by omega, _, turn_ok 7 (by decide) _, _, turn_ok 18 (by decide) _, _, move_ok 3 (by decide) _, by omega, by omega, by omega, _, turn_ok 17 (by decide) _, _, turn_ok 19 (by decide) _, _, move_ok 10 (by decide) _, by omega, by omega, ?_⟩
      rw [wd_xor, wd_xor, wd_xor, wd_xor, sum4, wd_upd]; rfl
    · unfold letheref02_schedule_l2; dsimp only; rw [if_neg (by omega)]

/-! ### one block -/
def V64 (s : H8) : Nat → BitVec 64 := fun q => if q < 8 then wdR (s.at q) else 0#64
def upto {α : Type} (z : α) (f : Nat → α) (i : Nat) : Nat → α := fun q => if q < i then f q else z
theorem upto_succ {α : Type} (z : α) (f : Nat → α) (i : Nat) : upd (upto z f i) i (f i) = upto z f (i + 1) := by
  funext q; rw [upd_at]; unfold upto
  by_cases hq : q = i
  · subst hq; rw [if_pos rfl, if_pos (by omega)]
  · rw [if_neg hq]
    by_cases h : q < i
    · rw [if_pos h, if_pos (by omega)]
    · rw [if_neg h, if_neg (by omega)]
theorem upto_zero {α : Type} (z : α) (f : Nat → α) : upto z f 0 = fun _ => z := by funext q; unfold upto; rw [if_neg (by omega)]
theorem at_of (st : Nat → BitVec 32) : ∀ q, q < 8 → (H8.of st).at q = st q := fun q hq => by
  rcases (by omega : q = 0 ∨ q = 1 ∨ q = 2 ∨ q = 3 ∨ q = 4 ∨ q = 5 ∨ q = 6 ∨ q = 7) with rfl | rfl | rfl | rfl | rfl | rfl | rfl | rfl <;> rfl
def shf (m : Nat → BitVec 64) (j : Nat) : Nat → BitVec 64 := fun q => if 8 - j ≤ q ∧ q < 8 then m (q - 1) else m q
theorem block_ok (st : Nat → BitVec 32) (blk : Nat → Byte) : letheref02_Block st blk (compress K256 st blk) := by
  refine ⟨_, sched_ok blk, V64 (H8.of st), ?_, V64 (rounds K256 (wext blk 48) (H8.of st) 64), ?_, _, ?_, rfl⟩
  · have key : Iter (letheref02_Block_l0 st) (0, upto 0#64 (fun q => wdR (st q)) 0) (upto 0#64 (fun q => wdR (st q)) 8) :=
      Iter.count (fun i => (i, upto 0#64 (fun q => wdR (st q)) i)) 8 (fun i hi => by
        unfold letheref02_Block_l0; dsimp only; rw [if_pos hi, ← upto_succ]; rfl) (by
        unfold letheref02_Block_l0; dsimp only; rw [if_neg (by omega)])
    rw [upto_zero] at key
    have e : upto 0#64 (fun q => wdR (st q)) 8 = V64 (H8.of st) := by
      funext q; unfold upto V64
      by_cases h : q < 8
      · rw [if_pos h, if_pos h, at_of st q h]
      · rw [if_neg h, if_neg h]
    rwa [e] at key
  · refine Iter.count (fun i => (i, V64 (rounds K256 (wext blk 48) (H8.of st) i))) 64 (fun i hi => ?_) ?_
    · unfold letheref02_Block_l1; dsimp only
      rw [if_pos hi]
      generalize hs : rounds K256 (wext blk 48) (H8.of st) i = s
      have hs1 : rounds K256 (wext blk 48) (H8.of st) (i + 1) = round (K256 i) (wext blk 48 i) s := by rw [← hs]; rfl
      rw [hs1]
      have v0 : V64 s 0 = wdR s.a := rfl
      have v1 : V64 s 1 = wdR s.b := rfl
      have v2 : V64 s 2 = wdR s.c := rfl
      have v4 : V64 s 4 = wdR s.e := rfl
      have v5 : V64 s 5 = wdR s.f := rfl
      have v6 : V64 s 6 = wdR s.g := rfl
      have v7 : V64 s 7 = wdR s.h := rfl
      rw [v0, v1, v2, v4, v5, v6, v7]
      refine ⟨_, turn_ok 2 (by decide) _, _, turn_ok 13 (by decide) _, _, turn_ok 22 (by decide) _, _, turn_ok 6 (by decide) _, _, turn_ok 11 (by decide) _, _, turn_ok 25 (by decide) _, shf (V64 s) 7, ?_, ?_⟩
      · have e0 : shf (V64 s) 0 = V64 s := by funext q; unfold shf; rw [if_neg (by omega)]
        have key : Iter letheref02_Block_l2 ((((7 - 0 : Nat)) : Int), shf (V64 s) 0) (shf (V64 s) 7) :=
          Iter.count (fun j => ((((7 - j : Nat)) : Int), shf (V64 s) j)) 7 (fun j hj => by
            unfold letheref02_Block_l2; dsimp only
            rw [if_pos (by omega)]
            refine ⟨by omega, by omega, by omega, by omega, ?_⟩
            have e1 : (((7 - j : Nat) : Int) - 1) = ((7 - (j + 1) : Nat) : Int) := by omega
            rw [e1]
            have e2 : (((7 - (j + 1) : Nat)) : Int).toNat = 7 - (j + 1) := rfl
            have e3 : (((7 - j : Nat)) : Int).toNat = 7 - j := rfl
            rw [e2, e3]
            have e4 : upd (shf (V64 s) j) (7 - j) (shf (V64 s) j (7 - (j + 1))) = shf (V64 s) (j + 1) := by
              funext q; rw [upd_at]
              by_cases hq : q = 7 - j
              · subst hq; rw [if_pos rfl]; unfold shf; rw [if_neg (by omega), if_pos (by omega)]; congr 1
              · rw [if_neg hq]; unfold shf
                by_cases h2 : 8 - j ≤ q ∧ q < 8
                · rw [if_pos h2, if_pos (by omega)]
                · rw [if_neg h2, if_neg (by omega)]
            rw [e4]) (by
            unfold letheref02_Block_l2; dsimp only; rw [if_neg (by omega)])
        rwa [e0] at key
      · have w4 : shf (V64 s) 7 4 = wdR s.d := rfl
        have k1 : K64 i = wdR (K256 i) := rfl
        rw [w4, k1, wd_not, wd_and, wd_and, wd_and, wd_and, wd_and, wd_xor, wd_xor, wd_xor, wd_xor, wd_xor, wd_xor, wd_xor, sum6, sum7]
        have e : upd (upd (shf (V64 s) 7) 4 (wdR (s.d + t1 (K256 i) (wext blk 48 i) s))) 0 (wdR (t1 (K256 i) (wext blk 48 i) s + t2 s)) = V64 (round (K256 i) (wext blk 48 i) s) := by
          funext q
          rw [upd_at, upd_at]
          by_cases h8 : q < 8
          · rcases (by omega : q = 0 ∨ q = 1 ∨ q = 2 ∨ q = 3 ∨ q = 4 ∨ q = 5 ∨ q = 6 ∨ q = 7) with rfl | rfl | rfl | rfl | rfl | rfl | rfl | rfl <;> rfl
          · rw [if_neg (by omega), if_neg (by omega)]; unfold shf V64; rw [if_neg (by omega), if_neg h8, if_neg h8]
        rw [← e]; rfl
    · unfold letheref02_Block_l1; dsimp only; rw [if_neg (by omega)]
  · refine Iter.count (fun i => (i, addTo st (rounds K256 (wext blk 48) (H8.of st) 64).at i)) 8 (fun i hi => ?_) ?_
    · unfold letheref02_Block_l3; dsimp only
      have e : V64 (rounds K256 (wext blk 48) (H8.of st) 64) i = wdR ((rounds K256 (wext blk 48) (H8.of st) 64).at i) := by unfold V64; rw [if_pos hi]
      rw [if_pos hi, e, sum2]; rfl
    · unfold letheref02_Block_l3; dsimp only; rw [if_neg (by omega)]; rfl
end Go.Proofs.YtjdgbahjpdopbaaDoor

/-
  PLAIN (own work): the document's padding, blocks and digest are the code's.
-/
namespace Go.Proofs.YtjdgbahjpdopbaaDoor
set_option linter.unusedSimpArgs false
set_option linter.unusedVariables false
set_option linter.unusedSectionVars false
open Go Go.LW

theorem begin_ok : letheref02_Begin H256 := by
  refine ⟨H256, ?_, rfl⟩
  have key : Iter (letheref02_Begin_l0) (0, upto 0#32 H256 0) (upto 0#32 H256 8) :=
    Iter.count (fun i => (i, upto 0#32 H256 i)) 8 (fun i hi => by
      unfold letheref02_Begin_l0; dsimp only
      have e : (H64 i).setWidth 32 = H256 i := by
        apply BitVec.eq_of_toNat_eq
        have := (H256 i).isLt
        unfold H64
        simp only [BitVec.toNat_setWidth, Nat.reducePow] at this ⊢
        omega
      rw [if_pos hi, e, upto_succ]) (by
      unfold letheref02_Begin_l0; dsimp only; rw [if_neg (by omega)])
  rw [upto_zero] at key
  have e : upto 0#32 H256 8 = H256 := by
    funext q; unfold upto
    by_cases h : q < 8
    · rw [if_pos h]
    · rw [if_neg h]; unfold H256
      simp [Array.getD, h]
  rwa [e] at key
theorem at_ok {b : List Byte} {i : Nat} (h : 64 * i + 64 ≤ b.length) (hb : b.length < 9223372036854775808) : letheref02_At b (i : Int) (upto 0#8 (fun q => lit b (64 * i + q)) 64) := by
  refine ⟨_, ?_, rfl⟩
  have key : Iter (letheref02_At_l0 b (i : Int)) (0, upto 0#8 (fun q => lit b (64 * i + q)) 0) (upto 0#8 (fun q => lit b (64 * i + q)) 64) :=
    Iter.count (fun k => (k, upto 0#8 (fun q => lit b (64 * i + q)) k)) 64 (fun k hk => by
      unfold letheref02_At_l0; dsimp only
      rw [if_pos hk, show ((64 * (i : Int)) + (k : Int)).toNat = 64 * i + k by omega, ← upto_succ]
      exact ⟨by omega, by omega, by omega, rfl⟩) (by
      unfold letheref02_At_l0; dsimp only; rw [if_neg (by omega)])
  rwa [upto_zero] at key

/-! ### the digest -/
theorem dgb_upto (st : Nat → BitVec 32) (i : Nat) : dgb st i = upto 0#8 (dig st) (4 * i) := by
  funext q; unfold upto
  by_cases h : q < 4 * i
  · rw [if_pos h, dgb_at st i q h]
  · rw [if_neg h]
    have : ∀ i, 4 * i ≤ q → dgb st i q = 0#8 := by
      intro i
      induction i with
      | zero => intro _; rfl
      | succ i ih =>
        intro hq
        simp only [dgb, upd_at]
        rw [if_neg (by omega), if_neg (by omega), if_neg (by omega), if_neg (by omega)]
        exact ih (by omega)
    exact this i (by omega)
def bo (st : Nat → BitVec 32) (i j : Nat) : Nat → Byte := fun q => if 4 * i + 4 - j ≤ q ∧ q < 4 * i + 4 then dig st q else if q < 4 * i then dig st q else 0#8
theorem bytesOf_ok (st : Nat → BitVec 32) : letheref02_bytesOf st (dgb st 8) := by
  refine ⟨dgb st 8, ?_, rfl⟩
  refine Iter.count (fun i => (i, dgb st i)) 8 (fun i hi => ?_) ?_
  · unfold letheref02_bytesOf_l0; dsimp only
    rw [if_pos hi]
    refine ⟨dgb st (i + 1), ?_, rfl⟩
    have e0 : bo st i 0 = dgb st i := by
      rw [dgb_upto]; funext q; unfold bo upto; rw [if_neg (by omega)]
    have e4 : bo st i 4 = dgb st (i + 1) := by
      rw [dgb_upto]; funext q; unfold bo upto
      by_cases h1 : q < 4 * i
      · rw [if_neg (by omega), if_pos h1, if_pos (by omega)]
      · by_cases h2 : q < 4 * i + 4
        · rw [if_pos (by omega), if_pos (by omega)]
        · rw [if_neg (by omega), if_neg h1, if_neg (by omega)]
    have key : Iter (letheref02_bytesOf_l1 i) (st i >>> (8 * 0), (3 - ((0 : Nat) : Int)), bo st i 0) (bo st i 4) :=
      Iter.count (fun j => (st i >>> (8 * j), (3 - ((j : Nat) : Int)), bo st i j)) 4 (fun j hj => by
        unfold letheref02_bytesOf_l1; dsimp only
        have h1 : st i >>> (8 * j) / 256#32 = st i >>> (8 * (j + 1)) := by
          apply BitVec.eq_of_toNat_eq
          rw [BitVec.toNat_udiv, BitVec.toNat_ushiftRight, BitVec.toNat_ushiftRight, Nat.mul_succ, Nat.shiftRight_add]
          simp only [BitVec.toNat_ofNat, Nat.reducePow, Nat.reduceMod, Nat.shiftRight_eq_div_pow]
        have h2 : (st i >>> (8 * j) % 256#32).setWidth 8 = (st i >>> (8 * j)).setWidth 8 := by
          apply BitVec.eq_of_toNat_eq
          simp only [BitVec.toNat_setWidth, BitVec.toNat_umod, BitVec.toNat_ofNat, Nat.reducePow, Nat.reduceMod]
          omega
        rw [if_pos (by omega), show ((((4 * i : Nat)) : Int) + (3 - (j : Int))).toNat = 4 * i + 3 - j by omega, h1, h2]
        refine ⟨by omega, by omega, by omega, ?_⟩
        have h3 : (3 - (j : Int) - 1) = 3 - ((j + 1 : Nat) : Int) := by omega
        have h4 : upd (bo st i j) (4 * i + 3 - j) ((st i >>> (8 * j)).setWidth 8) = bo st i (j + 1) := by
          funext q; rw [upd_at]
          by_cases hq : q = 4 * i + 3 - j
          · subst hq; rw [if_pos rfl]; unfold bo; rw [if_pos (by omega)]
            unfold dig
            rw [show (4 * i + 3 - j) / 4 = i by omega, show 24 - 8 * ((4 * i + 3 - j) % 4) = 8 * j by omega]
          · rw [if_neg hq]; unfold bo
            by_cases h5 : 4 * i + 4 - j ≤ q ∧ q < 4 * i + 4
            · rw [if_pos h5, if_pos (by omega)]
            · rw [if_neg h5, if_neg (show ¬ (4 * i + 4 - (j + 1) ≤ q ∧ q < 4 * i + 4) by omega)]
        rw [h3, h4]) (by
        unfold letheref02_bytesOf_l1; dsimp only; rw [if_neg (by omega)])
    rw [e0, e4, Nat.mul_zero, BitVec.ushiftRight_zero] at key
    exact key
  · unfold letheref02_bytesOf_l0; dsimp only; rw [if_neg (by omega)]

/-! ### padding -/
theorem len_byte (N i : Nat) (h : i < 8) : ((BitVec.ofNat 64 N * 8#64) >>> (8 * (7 - i)) % 256#64).setWidth 8 = lenb N i := by
  unfold lenb
  rw [BitVec.mul_comm, show 56 - 8 * i = 8 * (7 - i) by omega]
  apply BitVec.eq_of_toNat_eq
  simp only [BitVec.toNat_setWidth, BitVec.toNat_umod, BitVec.toNat_ofNat, Nat.reducePow, Nat.reduceMod]
  omega
def tl (N j : Nat) : Nat → Byte := fun q => if 8 - j ≤ q ∧ q < 8 then lenb N q else 0#8
theorem padded_ok2 {X : List Byte} (h : X.length < 70368744177664) : letheref02_padded X (padB X) := by
  have hz : (119 - X.length % 64) % 64 < 64 := by omega
  refine ⟨by omega, by rw [List.nil_append, List.length_singleton]; omega, pad0 X, ?_, pad0 X, tl X.length 8, ?_, ?_, ?_⟩
  · rw [List.nil_append]
    have key : Iter (letheref02_padded_l0) (X ++ 128#8 :: List.replicate 0 0#8) (X ++ 128#8 :: List.replicate ((119 - X.length % 64) % 64) 0#8) :=
      Iter.count (fun i => X ++ 128#8 :: List.replicate i 0#8) ((119 - X.length % 64) % 64) (fun i hi => by
        unfold letheref02_padded_l0
        have hl : (X ++ 128#8 :: List.replicate i 0#8).length = X.length + 1 + i := by rw [List.length_append, List.length_cons, List.length_replicate]; omega
        rw [hl, if_pos (by omega)]
        refine ⟨by rw [List.length_singleton]; omega, ?_⟩
        rw [List.append_assoc, List.cons_append, List.replicate_succ']) (by
        unfold letheref02_padded_l0
        have hl : (X ++ 128#8 :: List.replicate ((119 - X.length % 64) % 64) 0#8).length = X.length + 1 + (119 - X.length % 64) % 64 := by rw [List.length_append, List.length_cons, List.length_replicate]; omega
        rw [hl, if_neg (by omega)])
    exact key
  · have e0 : tl X.length 0 = fun _ => 0#8 := by funext q; unfold tl; rw [if_neg (by omega)]
    have key : Iter (letheref02_padded_l1) (pad0 X, (BitVec.ofNat 64 X.length * 8#64) >>> (8 * 0), (7 - ((0 : Nat) : Int)), tl X.length 0) (pad0 X, tl X.length 8) :=
      Iter.count (fun j => (pad0 X, (BitVec.ofNat 64 X.length * 8#64) >>> (8 * j), (7 - ((j : Nat) : Int)), tl X.length j)) 8 (fun j hj => by
        unfold letheref02_padded_l1; dsimp only
        have h1 : (BitVec.ofNat 64 X.length * 8#64) >>> (8 * j) / 256#64 = (BitVec.ofNat 64 X.length * 8#64) >>> (8 * (j + 1)) := by
          generalize BitVec.ofNat 64 X.length * 8#64 = y
          apply BitVec.eq_of_toNat_eq
          rw [BitVec.toNat_udiv, BitVec.toNat_ushiftRight, BitVec.toNat_ushiftRight, Nat.mul_succ, Nat.shiftRight_add]
          simp only [BitVec.toNat_ofNat, Nat.reducePow, Nat.reduceMod, Nat.shiftRight_eq_div_pow]
        rw [if_pos (by omega), h1, show (7 - (j : Int)).toNat = 7 - j by omega]
        refine ⟨by omega, by omega, ?_⟩
        have h2 := len_byte X.length (7 - j) (by omega)
        rw [show 8 * (7 - (7 - j)) = 8 * j by omega] at h2
        have h3 : (7 - (j : Int) - 1) = 7 - ((j + 1 : Nat) : Int) := by omega
        have h4 : upd (tl X.length j) (7 - j) (lenb X.length (7 - j)) = tl X.length (j + 1) := by
          funext q; rw [upd_at]
          by_cases hq : q = 7 - j
          · subst hq; rw [if_pos rfl]; unfold tl; rw [if_pos (by omega)]
          · rw [if_neg hq]; unfold tl
            by_cases h5 : 8 - j ≤ q ∧ q < 8
            · rw [if_pos h5, if_pos (by omega)]
            · rw [if_neg h5, if_neg (by omega)]
        rw [h2, h3, h4]) (by
        unfold letheref02_padded_l1; dsimp only; rw [if_neg (by omega)])
    rw [e0, Nat.mul_zero, BitVec.ushiftRight_zero] at key
    exact key
  · show (pad0 X).length + 8 ≤ _
    unfold pad0
    rw [List.length_append, List.length_cons, List.length_replicate]
    omega
  · have e : ∀ i, i < 8 → tl X.length 8 i = lenb X.length i := fun i hi => by unfold tl; rw [if_pos (by omega)]
    rw [e 0 (by decide), e 1 (by decide), e 2 (by decide), e 3 (by decide), e 4 (by decide), e 5 (by decide), e 6 (by decide), e 7 (by decide)]
    rfl
theorem padB_len2 (X : List Byte) : (padB X).length % 64 = 0 ∧ (padB X).length ≤ X.length + 72 ∧ 64 ≤ (padB X).length := by
  unfold padB pad0
  rw [List.length_append, List.length_append, List.length_cons, List.length_replicate, List.length_map, List.length_range]
  omega
theorem compress_ext {KK s : Nat → BitVec 32} {b b' : Nat → Byte} (h : ∀ q, q < 64 → b q = b' q) : compress KK s b = compress KK s b' := by
  unfold compress; rw [wext_congr h]
theorem refsum_ok {X : List Byte} (h : X.length < 70368744177664) : letheref02_Sum X (shaL X) := by
  have hp := padB_len2 X
  refine ⟨padB X, padded_ok2 h, H256, begin_ok, hstN K256 H256 (lit (padB X)) ((padB X).length / 64), ?_, _, bytesOf_ok _, rfl⟩
  refine Iter.count (fun i => (padB X, i, hstN K256 H256 (lit (padB X)) i)) ((padB X).length / 64) (fun i hi => ?_) ?_
  · unfold letheref02_Sum_l0; dsimp only
    refine ⟨by omega, ?_⟩
    rw [if_pos hi]
    refine ⟨_, at_ok (by omega) (by omega), _, block_ok _ _, by omega, ?_⟩
    have e : hstN K256 H256 (lit (padB X)) (i + 1) = compress K256 (hstN K256 H256 (lit (padB X)) i) (upto 0#8 (fun q => lit (padB X) (64 * i + q)) 64) := by
      show compress _ _ _ = _
      exact compress_ext fun q hq => by unfold upto; rw [if_pos hq]
    rw [e]
  · unfold letheref02_Sum_l0; dsimp only
    exact ⟨by omega, by rw [if_neg (by omega)]⟩
end Go.Proofs.YtjdgbahjpdopbaaDoor

/-
  PLAIN (own work): what kdf's functions compute, as functions of lists of bytes.
-/
namespace Go.Proofs.YtjdgbahjpdopbaaDoor
set_option linter.unusedSimpArgs false
set_option linter.unusedVariables false
set_option linter.unusedSectionVars false
open Go Go.LW
set_option linter.unusedVariables false

def keyK (X : List Byte) : List Byte := if 64 < X.length then dl 32 (shaL X) else X
def padK (X : List Byte) (x : Byte) : List Byte := dl 64 fun q => lit (keyK X) q ^^^ x
def macL (X Z : List Byte) : Nat → Byte := shaL (padK X 92#8 ++ dl 32 (shaL (padK X 54#8 ++ Z)))
theorem padK_length (X : List Byte) (x : Byte) : (padK X x).length = 64 := dl_length _ _
theorem lit_out {X : List Byte} {q : Nat} (h : X.length ≤ q) : lit X q = 0#8 := by unfold lit; simp [List.getD, h]
def xorN (f : Nat → Byte) (x : Byte) (t : Nat) : Nat → Byte := fun q => if q < t then f q ^^^ x else f q
theorem xorN_succ (f : Nat → Byte) (x : Byte) (t : Nat) : upd (xorN f x t) t (xorN f x t t ^^^ x) = xorN f x (t + 1) := by
  funext q
  rw [upd_at]
  unfold xorN
  by_cases h : q = t
  · subst h; rw [if_pos rfl, if_neg (by omega), if_pos (by omega)]
  · rw [if_neg h]
    by_cases h2 : q < t
    · rw [if_pos h2, if_pos (by omega)]
    · rw [if_neg h2, if_neg (by omega)]
theorem pad_at (K : List Byte) (x : Byte) {c : Nat} (hc : c = K.length) : ∀ q, q < 64 → xorN (spl (fun _ => 0#8) 0 c (lit K)) x 64 q = lit K q ^^^ x := fun q hq => by
  subst hc
  unfold xorN
  rw [if_pos hq]
  by_cases h : q < K.length
  · rw [spl_in _ _ _ _ _ (by omega), Nat.sub_zero]
  · rw [spl_out _ _ _ _ _ (by omega), lit_out (by omega)]
theorem padded_ok {X : List Byte} (hl : X.length < 2305843009213693952) (x : Byte) : kdf_padded X x (padK X x) := by
  unfold kdf_padded
  by_cases h : 64 < X.length
  · rw [if_pos h]
    refine ⟨_, sum_ok (by simp) (by simpa using hl), xorN (spl (fun _ => 0#8) 0 32 (lit (dl 32 (shaL X)))) x 64, ?_, ?_⟩
    · simp only [List.flatten_cons, List.flatten_nil, List.append_nil]
      refine Iter.count (fun i => (i, xorN (spl (fun _ => 0#8) 0 32 (lit (dl 32 (shaL X)))) x i)) 64 (fun i hi => ?_) ?_
      · unfold kdf_padded_l0; dsimp only; rw [if_pos hi, xorN_succ]
      · unfold kdf_padded_l0; dsimp only; rw [if_neg (by omega)]
    · unfold padK keyK
      rw [if_pos h]
      exact (dl_congr (pad_at _ x (dl_length _ _).symm)).symm
  · rw [if_neg h]
    refine ⟨xorN (spl (fun _ => 0#8) 0 (min X.length 64) (lit X)) x 64, ?_, ?_⟩
    · refine Iter.count (fun i => (i, xorN (spl (fun _ => 0#8) 0 (min X.length 64) (lit X)) x i)) 64 (fun i hi => ?_) ?_
      · unfold kdf_padded_l1; dsimp only; rw [if_pos hi, xorN_succ]
      · unfold kdf_padded_l1; dsimp only; rw [if_neg (by omega)]
    · unfold padK keyK
      rw [if_neg h]
      exact (dl_congr (pad_at _ x (by omega))).symm
theorem mac_ok {X : List Byte} {P : List (List Byte)} (hx : X.length < 2305843009213693952) (hp : P.length < 4611686018427387904) (hl : P.flatten.length < 1152921504606846976) : kdf_Mac X P (macL X P.flatten) := by
  have hpad := padded_ok hx 54#8
  have hpl := padK_length X 54#8
  unfold macL
  generalize padK X 54#8 = K at hpad hpl ⊢
  obtain ⟨s1, b1, w1, h1⟩ := write_ok (Y := K) Hold.nil (by rw [hpl]; decide)
  rw [List.nil_append] at w1 h1
  refine ⟨_, _, _, rfl, _, hpad, _, _, _, w1, ?_⟩
  obtain ⟨⟨s2, b2, n2⟩, hI, hn, h2⟩ := iter_go (step := kdf_Mac_l0 P)
    (fun s : Nat × (Nat → BitVec 32) × (Nat → BitVec 8) × Int => s.1 ≤ P.length ∧ Hold (K ++ (P.take s.1).flatten) s.2.1 s.2.2.1 ∧ s.2.2.2 = ((K ++ (P.take s.1).flatten).length : Int))
    (fun x : (Nat → BitVec 32) × (Nat → BitVec 8) × Int => x.2.2 = ((K ++ P.flatten).length : Int) ∧ Hold (K ++ P.flatten) x.1 x.2.1) (fun s => P.length - s.1) (by
    rintro ⟨t, st, blk, n⟩ ⟨ht, hH, hn⟩
    dsimp only at ht hH hn ⊢
    subst hn
    unfold kdf_Mac_l0
    dsimp only
    by_cases hw : t < P.length
    · have hf := flatten_take hw
      have hfl := flatten_len P (t + 1)
      rw [hf, List.length_append] at hfl
      obtain ⟨s3, b3, w3, h3⟩ := write_ok (Y := P.getD t []) hH (by rw [List.length_append, hpl]; omega)
      rw [List.append_assoc, ← hf] at w3 h3
      exact .inr ⟨_, by rw [if_pos hw]; exact ⟨hw, _, _, _, w3, by omega, rfl⟩, ⟨by dsimp only; omega, h3, rfl⟩, by dsimp only; omega⟩
    · refine .inl ⟨_, by rw [if_neg hw], ?_⟩
      obtain rfl : t = P.length := by omega
      rw [List.take_length] at hH ⊢
      exact ⟨rfl, hH⟩) (P.length + 1) (0, s1, b1, ((K).length : Int)) (by dsimp only; omega) ⟨Nat.zero_le _, by dsimp only; rw [List.take_zero, List.flatten_nil, List.append_nil]; exact h1, by dsimp only; rw [List.take_zero, List.flatten_nil, List.append_nil]⟩
  dsimp only at hn h2
  subst hn
  refine ⟨_, _, _, hI, _, sumdig_ok h2 (by rw [List.length_append, hpl]; omega), _, padded_ok hx _, _, sum_ok (by simp) (by simp only [List.flatten_cons, List.flatten_nil, List.append_nil, List.length_append, padK_length, dl_length]; decide), ?_⟩
  simp only [List.flatten_cons, List.flatten_nil, List.append_nil]
theorem extract_ok {X Z : List Byte} (hx : X.length < 2305843009213693952) (hl : Z.length < 1152921504606846976) : kdf_Extract X Z (macL X Z) := by
  have := mac_ok (P := [Z]) hx (by simp) (by simpa using hl)
  simp only [List.flatten_cons, List.flatten_nil, List.append_nil] at this
  exact ⟨_, this, rfl⟩

/-! ### Expand -/
def expT (prk info : List Byte) : Nat → List Byte
  | 0 => []
  | i + 1 => dl 32 (macL prk (expT prk info i ++ (info ++ [BitVec.ofNat 8 (i + 1)])))
def expO (prk info : List Byte) : Nat → List Byte
  | 0 => []
  | i + 1 => expO prk info i ++ expT prk info (i + 1)
theorem expT_length (prk info : List Byte) : ∀ i, (expT prk info (i + 1)).length = 32 := fun i => dl_length _ _
theorem expT_le (prk info : List Byte) : ∀ i, (expT prk info i).length ≤ 32
  | 0 => Nat.zero_le _
  | i + 1 => by rw [expT_length]; omega
theorem expO_length (prk info : List Byte) : ∀ i, (expO prk info i).length = 32 * i
  | 0 => rfl
  | i + 1 => by show (expO prk info i ++ expT prk info (i + 1)).length = _; rw [List.length_append, expO_length prk info i, expT_length]; omega
theorem expO_blk (prk info : List Byte) : ∀ m i, i < m → seg (expO prk info m) (32 * i) (32 * i + 32) = expT prk info (i + 1)
  | m + 1, i, h => by
    have hl := expO_length prk info m
    have ht := expT_length prk info m
    refine lext ?_ fun q hq => ?_
    · rw [seg_length (by rw [expO_length]; omega), expT_length]; omega
    · rw [seg_length (by rw [expO_length]; omega)] at hq
      rw [lit_seg (by rw [expO_length]; omega) hq]
      show lit (expO prk info m ++ expT prk info (m + 1)) _ = _
      rw [lit_app]
      by_cases hi : i < m
      · rw [if_pos (by omega), ← expO_blk prk info m i hi, lit_seg (by omega) hq]
      · obtain rfl : i = m := by omega
        rw [if_neg (by omega), hl]; congr 1; omega
theorem expO_beg (prk info : List Byte) {k : Nat} : ∀ m, k ≤ m → seg (expO prk info m) 0 (32 * k) = expO prk info k
  | 0, h => by obtain rfl : k = 0 := by omega
               rfl
  | m + 1, h => by
    by_cases hk : k = m + 1
    · subst hk; rw [← expO_length prk info (m + 1), seg_all]
    · have hl := expO_length prk info m
      refine Eq.trans ?_ (expO_beg prk info m (by omega))
      rw [seg_zero, seg_zero]
      show (expO prk info m ++ expT prk info (m + 1)).take _ = _
      rw [List.take_append_of_le_length (by omega)]
def expL (prk info : List Byte) (n : Nat) : List Byte := seg (expO prk info ((n + 31) / 32)) 0 n
theorem expL_length (prk info : List Byte) (n : Nat) : (expL prk info n).length = n := by
  unfold expL; rw [seg_length (by rw [expO_length]; omega)]; omega
theorem expL_less (prk info : List Byte) {m n : Nat} (h : m ≤ n) : seg (expL prk info n) 0 m = expL prk info m := by
  unfold expL
  rw [← expO_beg prk info (k := (m + 31) / 32) ((n + 31) / 32) (by omega)]
  simp only [seg_zero, List.take_take]
  congr 1; omega
theorem expand_ok {prk info : List Byte} {n : Nat} (hp : prk.length < 2305843009213693952) (hi : info.length < 1000000) (hn : n ≤ 8160) :
    kdf_Expand prk info (n : Int) (expL prk info n, 0) := by
  unfold kdf_Expand
  rw [if_neg (by omega), if_neg (by omega)]
  refine ⟨by omega, by omega, expO prk info ((n + 31) / 32), ?_, by omega, by rw [expO_length]; omega, rfl⟩
  refine Iter.count (fun i => (expO prk info i, expT prk info i, i + 1)) ((n + 31) / 32) (fun i hi2 => ?_) ?_
  · unfold kdf_Expand_l0; dsimp only
    have hl := expO_length prk info i
    have hl2 := expT_le prk info i
    rw [if_pos (by omega)]
    refine ⟨_, mac_ok hp (by simp) (by simp only [List.flatten_cons, List.flatten_nil, List.append_nil, List.length_append, List.length_cons, List.length_nil]; omega), by omega, by omega, ?_⟩
    simp only [List.flatten_cons, List.flatten_nil, List.append_nil]
    rfl
  · unfold kdf_Expand_l0; dsimp only
    have hl := expO_length prk info ((n + 31) / 32)
    rw [if_neg (by omega)]
theorem derive_ok {salt key info : List Byte} {n : Nat} (hs : salt.length < 2305843009213693952) (hk : key.length < 1152921504606846976) (hi : info.length < 1000000) (hn : n ≤ 8160) :
    kdf_Derive salt key info (n : Int) (expL (dl 32 (macL salt key)) info n, 0) :=
  ⟨_, extract_ok hs hk, _, _, expand_ok (by rw [dl_length]; decide) hi hn, rfl⟩
end Go.Proofs.YtjdgbahjpdopbaaDoor

/-
  PLAIN (own work): kdf's keys are Derive's bytes, cut.
-/
namespace Go.Proofs.YtjdgbahjpdopbaaDoor
set_option linter.unusedSimpArgs false
set_option linter.unusedVariables false
set_option linter.unusedSectionVars false
open Go Go.LW

/-- the keys: 32 bytes of Derive's each -/
def keysL (B : List Byte) : Nat → List (Nat → Byte)
  | 0 => []
  | i + 1 => keysL B i ++ [lit (seg B (32 * i) B.length)]
theorem keysL_length (B : List Byte) : ∀ n, (keysL B n).length = n
  | 0 => rfl
  | n + 1 => by show (keysL B n ++ [_]).length = _; rw [List.length_append, keysL_length B n]; rfl
theorem keysL_get (B : List Byte) (dflt : Nat → Byte) : ∀ n i, i < n → (keysL B n).getD i dflt = lit (seg B (32 * i) B.length)
  | n + 1, i, h => by
    have hl := keysL_length B n
    show (keysL B n ++ [_]).getD i dflt = _
    rw [List.getD_eq_getElem?_getD]
    by_cases hi : i < n
    · rw [List.getElem?_append_left (by omega), ← List.getD_eq_getElem?_getD]
      exact keysL_get B dflt n i hi
    · obtain rfl : i = n := by omega
      rw [List.getElem?_append_right (by omega), hl, Nat.sub_self]; rfl
theorem keys_ok {salt key info : List Byte} {n : Nat} (hs : salt.length < 2305843009213693952) (hk : key.length < 1152921504606846976) (hi : info.length < 1000000) (hn : n ≤ 255) :
    kdf_Keys salt key info (n : Int) (keysL (expL (dl 32 (macL salt key)) info (32 * n)) n, 0) := by
  unfold kdf_Keys
  rw [if_neg (by omega), if_neg (by omega)]
  have hd := derive_ok (n := 32 * n) hs hk hi (by omega)
  have hL := expL_length (dl 32 (macL salt key)) info (32 * n)
  generalize expL (dl 32 (macL salt key)) info (32 * n) = B at hd hL ⊢
  refine ⟨B, 0, by simpa using hd, ?_⟩
  rw [if_neg (by decide)]
  refine ⟨keysL B n, ?_, rfl⟩
  refine Iter.count (fun i => (B, keysL B i, i)) n (fun i hi => ?_) ?_
  · unfold kdf_Keys_l0
    dsimp only
    have hl := keysL_length B i
    rw [if_pos (by omega)]
    refine ⟨by omega, by omega, ?_, rfl⟩
    rw [hl, List.length_singleton]; omega
  · unfold kdf_Keys_l0
    dsimp only
    rw [if_neg (by omega)]
end Go.Proofs.YtjdgbahjpdopbaaDoor

/-
  PLAIN (own work): the document's HMAC, Extract, Expand and Derive are the code's.
-/
namespace Go.Proofs.YtjdgbahjpdopbaaDoor
set_option linter.unusedSimpArgs false
set_option linter.unusedVariables false
set_option linter.unusedSectionVars false
open Go Go.LW

/-- bits that differ, summed up -/
def nb (k : Nat) (x : Int) : Nat → Nat
  | 0 => 0
  | i + 1 => if (((k / 2 ^ i % 2 : Nat)) : Int) ≠ (x.tdiv ((2 ^ i : Nat) : Int)).tmod 2 then nb k x i + 2 ^ i else nb k x i
theorem nb_all : ∀ k : Fin 256, BitVec.ofNat 8 (nb k.val 54 8) = BitVec.ofNat 8 k.val ^^^ 54#8 ∧ BitVec.ofNat 8 (nb k.val 92 8) = BitVec.ofNat 8 k.val ^^^ 92#8 := by decide +kernel
theorem nb_le (k : Nat) (x : Int) : ∀ i, nb k x i < 2 ^ i
  | 0 => by show 0 < 1; decide
  | i + 1 => by
    have := nb_le k x i
    unfold nb
    rw [Nat.pow_succ]
    split <;> omega
theorem nb_byte (b : Byte) {x : Int} (hx : x = 54 ∨ x = 92) : BitVec.ofNat 8 (nb b.toNat x 8) = b ^^^ BitVec.ofInt 8 x := by
  have h := nb_all ⟨b.toNat, b.isLt⟩
  have e : BitVec.ofNat 8 b.toNat = b := by simp
  dsimp only at h
  rw [e] at h
  rcases hx with rfl | rfl
  · exact h.1
  · exact h.2
theorem bit_bd {i : Nat} (hi : i < 8) {x : Int} (hx : x = 54 ∨ x = 92) : 0 < 2 ^ i ∧ (2 ^ i : Nat) < 256 ∧ (((2 ^ i : Nat)) : Int) ≠ 0 ∧ -9223372036854775808 ≤ x.tdiv ((2 ^ i : Nat) : Int) ∧ x.tdiv ((2 ^ i : Nat) : Int) ≤ 9223372036854775807 := by
  have h : ∀ i : Fin 8, ∀ x ∈ [(54 : Int), 92], 0 < 2 ^ i.val ∧ (2 ^ i.val : Nat) < 256 ∧ (((2 ^ i.val : Nat)) : Int) ≠ 0 ∧ -9223372036854775808 ≤ x.tdiv ((2 ^ i.val : Nat) : Int) ∧ x.tdiv ((2 ^ i.val : Nat) : Int) ≤ 9223372036854775807 := by decide +kernel
  exact h ⟨i, hi⟩ x (by rcases hx with rfl | rfl <;> simp)
/-- the key, turned up to i -/
def trn (K : List Byte) (x : Byte) (i : Nat) : List Byte := dl 64 fun q => if q < i then lit K q ^^^ x else 0#8
theorem trn_set (K : List Byte) (x : Byte) {i : Nat} (hi : i < 64) : (trn K x i).set i (lit K i ^^^ x) = trn K x (i + 1) := by
  have hl : (trn K x i).length = 64 := dl_length _ _
  refine lext (by rw [List.length_set, hl]; exact (dl_length _ _).symm) fun q hq => ?_
  rw [List.length_set, hl] at hq
  have e : ∀ v, lit ((trn K x i).set i v) q = if q = i then v else lit (trn K x i) q := fun v => by
    unfold lit
    rw [List.getD_eq_getElem?_getD, List.getD_eq_getElem?_getD, List.getElem?_set]
    by_cases h : q = i
    · subst h; rw [if_pos rfl, if_pos rfl, if_pos (by omega)]; rfl
    · rw [if_neg (fun h2 => h h2.symm), if_neg h]
  rw [e]
  unfold trn
  rw [lit_dl _ hq, lit_dl _ hq]
  by_cases h : q = i
  · subst h; rw [if_pos rfl, if_pos (by omega)]
  · rw [if_neg h]
    by_cases h2 : q < i
    · rw [if_pos h2, if_pos (by omega)]
    · rw [if_neg h2, if_neg (by omega)]
theorem trn_zero (K : List Byte) (x : Byte) : List.replicate 64 0#8 = trn K x 0 := by
  refine lext (by rw [List.length_replicate]; exact (dl_length _ _).symm) fun q hq => ?_
  rw [List.length_replicate] at hq
  unfold trn
  rw [lit_dl _ hq, if_neg (by omega)]
  unfold lit
  rw [List.getD_eq_getElem?_getD, List.getElem?_replicate, if_pos hq]; rfl
theorem trn_all (K : List Byte) (x : Byte) : trn K x 64 = dl 64 fun q => lit K q ^^^ x := dl_congr fun q hq => if_pos hq
theorem turned_ok {X : List Byte} (hX : X.length < 70368744177664) {x : Int} (hx : x = 54 ∨ x = 92) : letheref03_turned X x (padK X (BitVec.ofInt 8 x)) := by
  unfold letheref03_turned
  by_cases h : 64 < X.length
  · rw [if_pos h]
    have eP : padK X (BitVec.ofInt 8 x) = trn (dl 32 (shaL X)) (BitVec.ofInt 8 x) 64 := by
      rw [trn_all]; unfold padK keyK; rw [if_pos h]
    generalize hK : dl 32 (shaL X) = K at eP
    have hKl : K.length = 32 := by rw [← hK]; exact dl_length _ _
    refine ⟨_, refsum_ok hX, _, ?_, rfl⟩
    rw [eP, trn_zero K (BitVec.ofInt 8 x), hK]
    refine Iter.count (fun i => (K, trn K (BitVec.ofInt 8 x) i, i)) 64 (fun i hi => ?_) ?_
    · unfold letheref03_turned_l0; dsimp only
      rw [if_pos hi]
      refine ⟨K, trn K (BitVec.ofInt 8 x) i, (lit K i).toNat, ?_, K, trn K (BitVec.ofInt 8 x) i, nb (lit K i).toNat x 8, ?_, by rw [List.length_replicate]; exact hi, ?_⟩
      · by_cases h2 : i < 32
        · rw [if_pos h2]; exact ⟨h2, rfl, rfl, rfl⟩
        · rw [if_neg h2]; exact ⟨rfl, rfl, by rw [lit_out (by omega)]; rfl⟩
      · refine Iter.count (fun j => (K, trn K (BitVec.ofInt 8 x) i, nb (lit K i).toNat x j, 2 ^ j)) 8 (fun j hj => ?_) ?_
        · unfold letheref03_turned_l1; dsimp only
          have hb := bit_bd hj hx
          have hk := (lit K i).isLt
          have hn := nb_le (lit K i).toNat x j
          rw [if_pos hb.2.1]
          refine ⟨hb.1, by omega, hb.2.2.1, ⟨hb.2.2.2.1, hb.2.2.2.2⟩, ?_⟩
          rw [nb]
          by_cases hc : ((((lit K i).toNat / 2 ^ j % 2 : Nat)) : Int) ≠ (x.tdiv ((2 ^ j : Nat) : Int)).tmod 2
          · rw [if_pos hc, if_pos hc]; exact ⟨by omega, rfl⟩
          · rw [if_neg hc, if_neg hc]; rfl
        · unfold letheref03_turned_l1; dsimp only; rw [if_neg (by decide)]
      · rw [nb_byte _ hx, trn_set K _ hi]
    · unfold letheref03_turned_l0; dsimp only; rw [if_neg (by omega)]
  · rw [if_neg h]
    have eP : padK X (BitVec.ofInt 8 x) = trn X (BitVec.ofInt 8 x) 64 := by
      rw [trn_all]; unfold padK keyK; rw [if_neg h]
    refine ⟨_, ?_, rfl⟩
    rw [eP, trn_zero X (BitVec.ofInt 8 x)]
    refine Iter.count (fun i => (trn X (BitVec.ofInt 8 x) i, i)) 64 (fun i hi => ?_) ?_
    · unfold letheref03_turned_l2; dsimp only
      rw [if_pos hi]
      refine ⟨trn X (BitVec.ofInt 8 x) i, (lit X i).toNat, ?_, trn X (BitVec.ofInt 8 x) i, nb (lit X i).toNat x 8, ?_, by rw [List.length_replicate]; exact hi, ?_⟩
      · by_cases h2 : i < X.length
        · rw [if_pos h2]; exact ⟨h2, rfl, rfl⟩
        · rw [if_neg h2]; exact ⟨rfl, by rw [lit_out (by omega)]; rfl⟩
      · refine Iter.count (fun j => (trn X (BitVec.ofInt 8 x) i, nb (lit X i).toNat x j, 2 ^ j)) 8 (fun j hj => ?_) ?_
        · unfold letheref03_turned_l3; dsimp only
          have hb := bit_bd hj hx
          have hk := (lit X i).isLt
          have hn := nb_le (lit X i).toNat x j
          rw [if_pos hb.2.1]
          refine ⟨hb.1, by omega, hb.2.2.1, ⟨hb.2.2.2.1, hb.2.2.2.2⟩, ?_⟩
          rw [nb]
          by_cases hc : ((((lit X i).toNat / 2 ^ j % 2 : Nat)) : Int) ≠ (x.tdiv ((2 ^ j : Nat) : Int)).tmod 2
          · rw [if_pos hc, if_pos hc]; exact ⟨by omega, rfl⟩
          · rw [if_neg hc, if_neg hc]; rfl
        · unfold letheref03_turned_l3; dsimp only; rw [if_neg (by decide)]
      · rw [nb_byte _ hx, trn_set X _ hi]
    · unfold letheref03_turned_l2; dsimp only; rw [if_neg (by omega)]
theorem joined_ok {P : List (List Byte)} (hp : P.length < 9223372036854775807) (hl : P.flatten.length ≤ 140737488355328) : letheref03_Joined P P.flatten := by
  refine ⟨_, ?_, rfl⟩
  have key : Iter (letheref03_Joined_l0 P) ((P.take 0).flatten, 0) (P.take P.length).flatten :=
    Iter.count (fun i => ((P.take i).flatten, i)) P.length (fun i hi => by
      unfold letheref03_Joined_l0; dsimp only
      have h1 := flatten_take hi
      have h2 := flatten_len P (i + 1)
      rw [h1, List.length_append] at h2
      rw [if_pos hi, h1]
      exact ⟨hi, by omega, by omega, rfl⟩) (by
      unfold letheref03_Joined_l0; dsimp only; rw [if_neg (by omega)])
  rw [List.take_length] at key
  exact key
theorem refmac_ok {K T : List Byte} (hk : K.length < 70368744177664) (ht : T.length < 1000000000) : letheref03_Mac K T (macL K T) := by
  have l1 := padK_length K 54#8
  have l2 := padK_length K 92#8
  have j1 := joined_ok (P := [padK K 54#8, T]) (by simp) (by simp only [List.flatten_cons, List.flatten_nil, List.append_nil, List.length_append]; omega)
  have j2 := joined_ok (P := [padK K 92#8, dl 32 (shaL (padK K 54#8 ++ T))]) (by simp) (by simp only [List.flatten_cons, List.flatten_nil, List.append_nil, List.length_append, dl_length]; omega)
  simp only [List.flatten_cons, List.flatten_nil, List.append_nil] at j1 j2
  exact ⟨_, turned_ok hk (.inl rfl), _, j1, _, refsum_ok (by rw [List.length_append]; omega), _, turned_ok hk (.inr rfl), _, j2, _, refsum_ok (by rw [List.length_append, dl_length]; omega), rfl⟩
theorem refexpand_ok {prk info : List Byte} {n : Nat} (hp : prk.length < 70368744177664) (hi : info.length < 1000000) (hn : n ≤ 8160) :
    letheref03_Expand prk info (n : Int) (.inr (expL prk info n, 0)) := by
  unfold letheref03_Expand
  rw [if_neg (by omega), if_neg (by omega)]
  refine ⟨expO prk info ((n + 31) / 32), ?_, by omega, by rw [expO_length]; omega, rfl⟩
  refine Iter.count (fun i => (expO prk info i, expT prk info i, i + 1)) ((n + 31) / 32) (fun i hi2 => ?_) ?_
  · unfold letheref03_Expand_l0; dsimp only
    have hl := expO_length prk info i
    have hl2 := expT_le prk info i
    rw [if_pos (by omega)]
    have j := joined_ok (P := [expT prk info i, info, [BitVec.ofNat 8 (i + 1)]]) (by simp) (by simp only [List.flatten_cons, List.flatten_nil, List.append_nil, List.length_append, List.length_singleton]; omega)
    simp only [List.flatten_cons, List.flatten_nil, List.append_nil] at j
    exact ⟨_, j, _, refmac_ok hp (by simp only [List.length_append, List.length_singleton]; omega), by omega, by omega, rfl⟩
  · unfold letheref03_Expand_l0; dsimp only
    have hl := expO_length prk info ((n + 31) / 32)
    rw [if_neg (by omega)]
theorem refderive_ok {salt key info : List Byte} {n : Nat} (hs : salt.length < 70368744177664) (hk : key.length < 1000000000) (hi : info.length < 1000000) (hn : n ≤ 8160) :
    letheref03_Derive salt key info (n : Int) (.inr (expL (dl 32 (macL salt key)) info n, 0)) :=
  ⟨_, ⟨_, refmac_ok hs hk, rfl⟩, .inr ⟨_, _, refexpand_ok (by rw [dl_length]; decide) hi hn, rfl⟩⟩

end Go.Proofs.YtjdgbahjpdopbaaDoor

/-
  PLAIN (own work): marks written over a list, one by one; rooms with three bytes behind.
-/
namespace Go.Proofs.YtjdgbahjpdopbaaDoor
set_option linter.unusedSimpArgs false
set_option linter.unusedVariables false
set_option linter.unusedSectionVars false
open Go Go.LW

/-- the first i are written over -/
def mkl {α : Type} (f : Nat → α) (l : List α) (i : Nat) : List α := (List.range i).map f ++ l.drop i
theorem mkl_zero {α : Type} (f : Nat → α) (l : List α) : mkl f l 0 = l := rfl
theorem mkl_all {α : Type} (f : Nat → α) (l : List α) : mkl f l l.length = (List.range l.length).map f := by unfold mkl; rw [List.drop_length, List.append_nil]
theorem mkl_length {α : Type} (f : Nat → α) (l : List α) {i : Nat} (h : i ≤ l.length) : (mkl f l i).length = l.length := by
  unfold mkl; rw [List.length_append, List.length_map, List.length_range, List.length_drop]; omega
theorem mkl_set {α : Type} (f : Nat → α) (l : List α) {i : Nat} (h : i < l.length) : (mkl f l i).set i (f i) = mkl f l (i + 1) := by
  unfold mkl
  rw [List.set_append, if_neg (by rw [List.length_map, List.length_range]; omega), List.length_map, List.length_range, Nat.sub_self, List.drop_eq_getElem_cons h, List.set_cons_zero, List.range_succ, List.map_append, List.append_assoc]
  rfl
theorem mkl_lit (f : Nat → Byte) (l : List Byte) {i : Nat} (h : i < l.length) : lit (mkl f l (i + 1)) i = f i := by
  unfold lit mkl
  rw [List.getD_eq_getElem?_getD, List.getElem?_append_left (by rw [List.length_map, List.length_range]; omega), List.getElem?_map, List.getElem?_range (by omega)]
  rfl
theorem map_snoc {α : Type} (f : Nat → α) (i : Nat) : (List.range i).map f ++ [f i] = (List.range (i + 1)).map f := by rw [List.range_succ, List.map_append]; rfl
def rooM (X : List Byte) : List Byte := X ++ [209#8, 210#8, 211#8]
theorem rooM_length (X : List Byte) : (rooM X).length = X.length + 3 := by unfold rooM; rw [List.length_append]; rfl
theorem rooM_seg (X : List Byte) : seg (rooM X) 0 X.length = X := by unfold seg rooM; simp
theorem rooM_cut (X : List Byte) : seg (rooM X) 0 ((((rooM X).length : Nat) : Int) - 3).toNat = X := by
  rw [rooM_length]
  have e : (((X.length + 3 : Nat) : Int) - 3).toNat = X.length := by omega
  rw [e, rooM_seg]
end Go.Proofs.YtjdgbahjpdopbaaDoor
