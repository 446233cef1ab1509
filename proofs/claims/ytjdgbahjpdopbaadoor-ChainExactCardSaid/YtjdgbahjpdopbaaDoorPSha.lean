/-
  PLAIN (own work): what sha's functions compute, as functions of lists of bytes.
-/
import Derived.Test.YtjdgbahjpdopbaaDoorRSha
namespace Go.Proofs.YtjdgbahjpdopbaaDoor
set_option linter.unusedSimpArgs false
set_option linter.unusedVariables false
set_option linter.unusedSectionVars false
open Go Go.LW

theorem iter_go {S X : Type} {step : S → S ⊕ X → Prop} (J : S → Prop) (Q : X → Prop) (μ : S → Nat)
    (h : ∀ s, J s → (∃ x, step s (.inr x) ∧ Q x) ∨ ∃ s', step s (.inl s') ∧ J s' ∧ μ s' < μ s) : ∀ n s, μ s < n → J s → ∃ x, Iter step s x ∧ Q x
  | 0, s, hn, _ => absurd hn (Nat.not_lt_zero _)
  | n + 1, s, hn, hJ => by
    rcases h s hJ with ⟨x, hx, hQ⟩ | ⟨s', hs, hJ', hm⟩
    · exact ⟨x, .done hx, hQ⟩
    · obtain ⟨x, hx, hQ⟩ := iter_go J Q μ h n s' (by omega) hJ'
      exact ⟨x, .more hs hx, hQ⟩
theorem lext {X Y : List Byte} (hl : X.length = Y.length) (h : ∀ q, q < X.length → lit X q = lit Y q) : X = Y := by
  rw [← lit_of X, ← lit_of Y, ← hl]
  exact List.map_congr_left fun q hq => h q (List.mem_range.1 hq)
theorem dl_congr {m : Nat} {f g : Nat → Byte} (h : ∀ q, q < m → f q = g q) : dl m f = dl m g := List.map_congr_left fun q hq => h q (List.mem_range.1 hq)

/-! ### one block -/
theorem rot_mask : ∀ n : Fin 32, 0 < n.val → (BitVec.ofInt 64 (-(n.val : Int)) &&& 31#64).toNat = 32 - n.val ∧ ((32#64) - (BitVec.ofInt 64 (-(n.val : Int)) &&& 31#64)).toNat = n.val := by decide +kernel
theorem right_ok (n : Nat) (h0 : 0 < n) (h1 : n < 32) (x : BitVec 32) : sha_right (n : Int) x (x.rotateRight n) := by
  refine ⟨by omega, _, rfl, ?_⟩
  obtain ⟨e1, e2⟩ := rot_mask ⟨n, h1⟩ h0
  rw [e1, e2, BitVec.rotateRight_def, Nat.mod_eq_of_lt h1, BitVec.or_comm]
theorem lit8 (s : H8) : ∀ i, i < 8 → lit [s.a, s.b, s.c, s.d, s.e, s.f, s.g, s.h] i = s.at i := fun i hi => by
  rcases (by omega : i = 0 ∨ i = 1 ∨ i = 2 ∨ i = 3 ∨ i = 4 ∨ i = 5 ∨ i = 6 ∨ i = 7) with rfl | rfl | rfl | rfl | rfl | rfl | rfl | rfl <;> rfl
theorem comp_ok (st : Nat → BitVec 32) (blk : Nat → BitVec 8) : sha_Compress st blk (compress K256 st blk) := by
  refine ⟨wbeg blk 16, ?_, wext blk 48, ?_, ?_⟩
  · refine Iter.count (fun i => (i, wbeg blk i)) 16 (fun i hi => ?_) ?_
    · unfold sha_Compress_l0; dsimp only; rw [if_pos hi]; rfl
    · unfold sha_Compress_l0; dsimp only; rw [if_neg (by omega)]
  · refine Iter.count (fun i => (16 + i, wext blk i)) 48 (fun i hi => ?_) ?_
    · unfold sha_Compress_l1; dsimp only
      rw [if_pos (by omega), show (((16 + i : Nat) : Int) - 2).toNat = 16 + i - 2 by omega, show (((16 + i : Nat) : Int) - 15).toNat = 16 + i - 15 by omega,
        show (((16 + i : Nat) : Int) - 7).toNat = 16 + i - 7 by omega, show (((16 + i : Nat) : Int) - 16).toNat = 16 + i - 16 by omega]
      exact ⟨by omega, by omega, by omega, by omega, _, right_ok 17 (by decide) (by decide) _, _, right_ok 19 (by decide) (by decide) _, _, right_ok 7 (by decide) (by decide) _, _, right_ok 18 (by decide) (by decide) _, rfl⟩
    · unfold sha_Compress_l1; dsimp only; rw [if_neg (by omega)]
  · refine ⟨ (rounds K256 (wext blk 48) (H8.of st) 64).a, (rounds K256 (wext blk 48) (H8.of st) 64).b, (rounds K256 (wext blk 48) (H8.of st) 64).c, (rounds K256 (wext blk 48) (H8.of st) 64).d, (rounds K256 (wext blk 48) (H8.of st) 64).e, (rounds K256 (wext blk 48) (H8.of st) 64).f, (rounds K256 (wext blk 48) (H8.of st) 64).g, (rounds K256 (wext blk 48) (H8.of st) 64).h, ?_, addTo st (rounds K256 (wext blk 48) (H8.of st) 64).at 8, ?_, rfl⟩
    · exact Iter.count (fun i =>
        ((rounds K256 (wext blk 48) (H8.of st) i).a, (rounds K256 (wext blk 48) (H8.of st) i).b, (rounds K256 (wext blk 48) (H8.of st) i).c, (rounds K256 (wext blk 48) (H8.of st) i).d, (rounds K256 (wext blk 48) (H8.of st) i).e, (rounds K256 (wext blk 48) (H8.of st) i).f, (rounds K256 (wext blk 48) (H8.of st) i).g, (rounds K256 (wext blk 48) (H8.of st) i).h, i)) 64 (fun i hi => by
        unfold sha_Compress_l2; dsimp only; rw [if_pos hi]
        exact ⟨_, right_ok 6 (by decide) (by decide) _, _, right_ok 11 (by decide) (by decide) _, _, right_ok 25 (by decide) (by decide) _, _, right_ok 2 (by decide) (by decide) _, _, right_ok 13 (by decide) (by decide) _, _, right_ok 22 (by decide) (by decide) _, rfl⟩) (by
        unfold sha_Compress_l2; dsimp only; rw [if_neg (by omega)])
    · refine Iter.count (fun i => (i, addTo st (rounds K256 (wext blk 48) (H8.of st) 64).at i)) 8 (fun i hi => ?_) ?_
      · unfold sha_Compress_l3; dsimp only; rw [if_pos hi, lit8 _ i hi]; rfl
      · unfold sha_Compress_l3; dsimp only; rw [if_neg (by omega)]

/-! ### Write -/
def Hold (X : List Byte) (st : Nat → BitVec 32) (blk : Nat → BitVec 8) : Prop := HashIs K256 H256 X.length (lit X) st blk
theorem Hold.nil : Hold [] H256 (fun _ => 0#8) := HashIs.zero _ _ _ _
theorem tmod_nat (N : Nat) : ((N : Int).tmod 64) = ((N % 64 : Nat) : Int) := by rw [Int.tmod_eq_emod_of_nonneg (by omega)]; omega
theorem spl_lit (X Y : List Byte) {c : Nat} (hc : c ≤ Y.length) : ∀ q, q < X.length + c → spl (lit X) X.length c (lit Y) q = lit (X ++ seg Y 0 c) q := fun q hq => by
  rw [lit_app]
  by_cases h : q < X.length
  · rw [if_pos h, spl_out _ _ _ _ _ (by omega)]
  · rw [if_neg h, spl_in _ _ _ _ _ (by omega), lit_seg hc (by omega), Nat.zero_add]
theorem write_ok {X Y : List Byte} {st : Nat → BitVec 32} {blk : Nat → BitVec 8} (h : Hold X st blk) (hl : X.length + Y.length < 4611686018427387904) :
    ∃ st' blk', sha_Hash_Write st blk (X.length : Int) Y (st', blk', ((X ++ Y).length : Int)) ∧ Hold (X ++ Y) st' blk' := by
  obtain ⟨⟨st', blk', n'⟩, hI, hn, hH⟩ := iter_go (step := sha_Hash_Write_l0)
    (fun s : (List Byte) × (Nat → BitVec 32) × (Nat → BitVec 8) × Int => ∃ Z, Z ++ s.1 = X ++ Y ∧ Hold Z s.2.1 s.2.2.1 ∧ s.2.2.2 = (Z.length : Int))
    (fun x : (Nat → BitVec 32) × (Nat → BitVec 8) × Int => x.2.2 = ((X ++ Y).length : Int) ∧ Hold (X ++ Y) x.1 x.2.1) (fun s => s.1.length) (by
    rintro ⟨b, st, blk, n⟩ ⟨Z, hZ, hH, rfl⟩
    have hZl : Z.length + b.length = X.length + Y.length := by rw [← List.length_append, hZ, List.length_append]
    unfold sha_Hash_Write_l0
    dsimp only at hZ hH ⊢
    by_cases hb : 0 < b.length
    · refine .inr ?_
      rw [tmod_nat, show ((Z.length % 64 : Nat) : Int).toNat = Z.length % 64 from rfl]
      have hm : min b.length (64 - Z.length % 64) ≤ b.length := Nat.min_le_left _ _
      have hm2 : min b.length (64 - Z.length % 64) ≤ 64 - Z.length % 64 := Nat.min_le_right _ _
      have hm3 : 0 < min b.length (64 - Z.length % 64) := by omega
      generalize hc : min b.length (64 - Z.length % 64) = c at hm hm2 hm3
      have e1 : (Z.length : Int) + (c : Int) = ((Z.length + c : Nat) : Int) := by omega
      have hsl : (seg b 0 c).length = c := by rw [seg_length hm]; omega
      have hll : (Z ++ seg b 0 c).length = Z.length + c := by rw [List.length_append, hsl]
      have hcat : (Z ++ seg b 0 c) ++ seg b c b.length = X ++ Y := by rw [List.append_assoc, seg_app ⟨by omega, hm, Nat.le_refl _⟩, seg_all]; exact hZ
      have hlt : (seg b c b.length).length < b.length := by rw [seg_length (Nat.le_refl _)]; omega
      simp only [if_pos hb]
      rw [e1, tmod_nat]
      by_cases hw : (Z.length + c) % 64 = 0
      · refine ⟨(seg b c b.length, compress K256 st (spl blk (Z.length % 64) c (lit b)), spl blk (Z.length % 64) c (lit b), ((Z.length + c : Nat) : Int)), ⟨by omega, by omega, by omega, by omega, ?_⟩, ⟨_, hcat, ?_, ?_⟩, hlt⟩
        · rw [if_pos (by omega)]; exact ⟨_, comp_ok _ _, rfl⟩
        · have := HashIs.congr (HashIs.whole (g := lit b) hH (show Z.length % 64 + c = 64 by omega)) (spl_lit Z b hm)
          unfold Hold; rw [hll]; exact this
        · rw [hll]
      · refine ⟨(seg b c b.length, st, spl blk (Z.length % 64) c (lit b), ((Z.length + c : Nat) : Int)), ⟨by omega, by omega, by omega, by omega, ?_⟩, ⟨_, hcat, ?_, ?_⟩, hlt⟩
        · rw [if_neg (by omega)]
        · have := HashIs.congr (HashIs.part (g := lit b) hH (show Z.length % 64 + c < 64 by omega)) (spl_lit Z b hm)
          unfold Hold; rw [hll]; exact this
        · rw [hll]
    · refine .inl ⟨_, by rw [if_neg hb], ?_⟩
      obtain rfl : b = [] := List.length_eq_zero_iff.1 (by omega)
      rw [List.append_nil] at hZ
      subst hZ
      exact ⟨rfl, hH⟩) (Y.length + 1) (Y, st, blk, (X.length : Int)) (Nat.lt_succ_self _) ⟨X, rfl, h, rfl⟩
  dsimp only at hn hH
  subst hn
  exact ⟨st', blk', ⟨_, _, _, hI, rfl⟩, hH⟩

/-! ### Sum -/
def lenb (N i : Nat) : Byte := (((8#64) * (BitVec.ofNat 64 N)) >>> (56 - 8 * i)).setWidth 8
def pad0 (X : List Byte) : List Byte := X ++ 128#8 :: List.replicate ((119 - X.length % 64) % 64) 0#8
def padB (X : List Byte) : List Byte := pad0 X ++ (List.range 8).map (lenb X.length)
def shaL (X : List Byte) : Nat → Byte := dgb (hstN K256 H256 (lit (padB X)) ((padB X).length / 64)) 8
theorem pad0_length (X : List Byte) : (pad0 X).length = X.length + 1 + (119 - X.length % 64) % 64 := by
  unfold pad0; rw [List.length_append, List.length_cons, List.length_replicate]; omega
theorem padB_length (X : List Byte) : (padB X).length = X.length + 9 + (119 - X.length % 64) % 64 := by
  unfold padB; rw [List.length_append, pad0_length, List.length_map, List.length_range]; omega
theorem dgb_congr {s s' : Nat → BitVec 32} : ∀ k, (∀ i, i < k → s i = s' i) → dgb s k = dgb s' k
  | 0, _ => rfl
  | k + 1, h => by simp only [dgb]; rw [dgb_congr k fun i hi => h i (by omega), h k (by omega)]
theorem sumdig_ok {X : List Byte} {st : Nat → BitVec 32} {blk : Nat → BitVec 8} (h : Hold X st blk) (hl : X.length < 2305843009213693952) :
    sha_Hash_Sum st blk (X.length : Int) (shaL X) := by
  obtain ⟨s1, b1, w1, h1⟩ := write_ok (Y := [128#8]) h (by simp only [List.length_cons, List.length_nil]; omega)
  refine ⟨_, _, _, rfl, _, _, _, w1, ?_⟩
  obtain ⟨⟨s2, b2, n2⟩, hI, hn, h2⟩ := iter_go (step := sha_Hash_Sum_l0)
    (fun s : (Nat → BitVec 32) × (Nat → BitVec 8) × Int => ∃ k, k ≤ (119 - X.length % 64) % 64 ∧ Hold (X ++ 128#8 :: List.replicate k 0#8) s.1 s.2.1 ∧ s.2.2 = ((X.length + 1 + k : Nat) : Int))
    (fun x : (Nat → BitVec 32) × (Nat → BitVec 8) × Int => x.2.2 = ((pad0 X).length : Int) ∧ Hold (pad0 X) x.1 x.2.1) (fun s => 1000000 + X.length - s.2.2.toNat) (by
    rintro ⟨st, blk, n⟩ ⟨k, hk, hH, hn⟩
    dsimp only at hH hn ⊢
    subst hn
    unfold sha_Hash_Sum_l0
    dsimp only
    rw [tmod_nat]
    have hL : (X ++ 128#8 :: List.replicate k 0#8).length = X.length + 1 + k := by rw [List.length_append, List.length_cons, List.length_replicate]; omega
    by_cases hw : (X.length + 1 + k) % 64 = 56
    · refine .inl ⟨_, by rw [if_neg (by omega)], ?_⟩
      have : k = (119 - X.length % 64) % 64 := by omega
      dsimp only
      rw [pad0_length, ← this]
      refine ⟨rfl, ?_⟩
      unfold pad0; rw [← this]; exact hH
    · obtain ⟨s3, b3, w3, h3⟩ := write_ok (Y := [0#8]) hH (by rw [hL, List.length_cons, List.length_nil]; omega)
      rw [hL] at w3
      have e3 : (X ++ 128#8 :: List.replicate k 0#8) ++ [0#8] = X ++ 128#8 :: List.replicate (k + 1) 0#8 := by
        rw [List.append_assoc, List.cons_append, ← List.replicate_succ']
      rw [e3] at w3 h3
      refine .inr ⟨_, by rw [if_pos (by omega)]; exact ⟨_, _, _, w3, rfl⟩, ⟨k + 1, by omega, h3, ?_⟩, ?_⟩
      · dsimp only; rw [List.length_append, List.length_cons, List.length_replicate]; omega
      · dsimp only; rw [List.length_append, List.length_cons, List.length_replicate]; omega) (1000001 + X.length) (s1, b1, ((X ++ [128#8]).length : Int)) (by dsimp only; omega) ⟨0, Nat.zero_le _, h1, by dsimp only; rw [List.length_append]; rfl⟩
  dsimp only at hn h2
  subst hn
  refine ⟨_, _, _, hI, ?_⟩
  obtain ⟨⟨s4, b4, n4⟩, hI4, hn4, h4⟩ := iter_go (step := sha_Hash_Sum_l1 (X.length : Int))
    (fun s : Nat × (Nat → BitVec 32) × (Nat → BitVec 8) × Int => s.1 ≤ 8 ∧ Hold (pad0 X ++ (List.range s.1).map (lenb X.length)) s.2.1 s.2.2.1 ∧ s.2.2.2 = (((pad0 X).length + s.1 : Nat) : Int))
    (fun x : (Nat → BitVec 32) × (Nat → BitVec 8) × Int => x.2.2 = ((padB X).length : Int) ∧ Hold (padB X) x.1 x.2.1) (fun s => 8 - s.1) (by
    rintro ⟨t, st, blk, n⟩ ⟨ht, hH, hn⟩
    dsimp only at ht hH hn ⊢
    subst hn
    unfold sha_Hash_Sum_l1
    dsimp only
    have hL : (pad0 X ++ (List.range t).map (lenb X.length)).length = (pad0 X).length + t := by rw [List.length_append, List.length_map, List.length_range]
    by_cases hw : t < 8
    · obtain ⟨s3, b3, w3, h3⟩ := write_ok (Y := [lenb X.length t]) hH (by rw [hL, List.length_cons, List.length_nil, pad0_length]; omega)
      rw [hL] at w3
      have e3 : (pad0 X ++ (List.range t).map (lenb X.length)) ++ [lenb X.length t] = pad0 X ++ (List.range (t + 1)).map (lenb X.length) := by
        rw [List.append_assoc, List.range_succ, List.map_append]; rfl
      rw [e3] at w3 h3
      refine .inr ⟨_, by rw [if_pos hw]; exact ⟨_, _, _, by simpa only [lenb, BitVec.ofInt_natCast] using w3, rfl⟩, ⟨by dsimp only; omega, h3, ?_⟩, by dsimp only; omega⟩
      dsimp only; rw [List.length_append, List.length_map, List.length_range]
    · refine .inl ⟨_, by rw [if_neg hw], ?_⟩
      obtain rfl : t = 8 := by omega
      exact ⟨by dsimp only; unfold padB; rw [List.length_append, List.length_map, List.length_range], hH⟩) 9 (0, s2, b2, ((pad0 X).length : Int)) (by dsimp only; omega) ⟨Nat.zero_le _, by simpa using h2, rfl⟩
  dsimp only at hn4 h4
  subst hn4
  refine ⟨_, _, _, hI4, dgb s4 8, ?_, ?_⟩
  · refine Iter.count (fun i => (i, dgb s4 i)) 8 (fun i hi => ?_) ?_
    · unfold sha_Hash_Sum_l2; dsimp only; rw [if_pos hi]; rfl
    · unfold sha_Hash_Sum_l2; dsimp only; rw [if_neg (by omega)]
  · exact dgb_congr 8 fun i hi => (h4.st_ i hi).symm
theorem flatten_take {P : List (List Byte)} {t : Nat} (h : t < P.length) : (P.take (t + 1)).flatten = (P.take t).flatten ++ P.getD t [] := by
  rw [List.take_succ_eq_append_getElem h, List.flatten_append]
  simp [List.getD, h]
theorem flatten_len (P : List (List Byte)) (t : Nat) : (P.take t).flatten.length ≤ P.flatten.length := by
  conv => rhs; rw [← List.take_append_drop t P, List.flatten_append, List.length_append]
  omega
theorem sum_ok {P : List (List Byte)} (hp : P.length < 4611686018427387904) (hl : P.flatten.length < 2305843009213693952) : sha_Sum P (shaL P.flatten) := by
  refine ⟨_, _, _, rfl, ?_⟩
  obtain ⟨⟨s2, b2, n2⟩, hI, hn, h2⟩ := iter_go (step := sha_Sum_l0 P)
    (fun s : Nat × (Nat → BitVec 32) × (Nat → BitVec 8) × Int => s.1 ≤ P.length ∧ Hold (P.take s.1).flatten s.2.1 s.2.2.1 ∧ s.2.2.2 = ((P.take s.1).flatten.length : Int))
    (fun x : (Nat → BitVec 32) × (Nat → BitVec 8) × Int => x.2.2 = (P.flatten.length : Int) ∧ Hold P.flatten x.1 x.2.1) (fun s => P.length - s.1) (by
    rintro ⟨t, st, blk, n⟩ ⟨ht, hH, hn⟩
    dsimp only at ht hH hn ⊢
    subst hn
    unfold sha_Sum_l0
    dsimp only
    by_cases hw : t < P.length
    · have hf := flatten_take hw
      have hfl := flatten_len P (t + 1)
      rw [hf, List.length_append] at hfl
      obtain ⟨s3, b3, w3, h3⟩ := write_ok (Y := P.getD t []) hH (by omega)
      rw [← hf] at w3 h3
      exact .inr ⟨_, by rw [if_pos hw]; exact ⟨hw, _, _, _, w3, by omega, rfl⟩, ⟨by dsimp only; omega, h3, rfl⟩, by dsimp only; omega⟩
    · refine .inl ⟨_, by rw [if_neg hw], ?_⟩
      obtain rfl : t = P.length := by omega
      rw [List.take_length] at hH ⊢
      exact ⟨rfl, hH⟩) (P.length + 1) (0, H256, (fun _ => 0#8), ((0 : Nat) : Int)) (by dsimp only; omega) ⟨Nat.zero_le _, Hold.nil, rfl⟩
  dsimp only at hn h2
  subst hn
  exact ⟨_, _, _, hI, _, sumdig_ok h2 hl, rfl⟩
end Go.Proofs.YtjdgbahjpdopbaaDoor
