import Derived.Test.YthjkmhdgenmnoaaDoorRSha
import Derived.Test.YthjkmhdgenmnoaaDoorRKdf
import Derived.Test.YthjkmhdgenmnoaaDoorRRef02
import Derived.Test.YthjkmhdgenmnoaaDoorRRef03
import Derived.Test.YthjkmhdgenmnoaaDoorRAes
import Derived.Test.YthjkmhdgenmnoaaDoorRSeal
import Derived.Test.YthjkmhdgenmnoaaDoorEc
import Derived.Test.YthjkmhdgenmnoaaDoorRRef04
import Derived.Test.YthjkmhdgenmnoaaDoorRRef05
namespace Go.Proofs.YthjkmhdgenmnoaaDoor
set_option linter.unusedSimpArgs false
set_option linter.unusedVariables false
set_option linter.unusedSectionVars false
open Go Go.LW
theorem iter_go {S X : Type} {step : S → S ⊕ X → Prop} (J : S → Prop) (Q : X → Prop) (μ : S → Nat)
   (h : ∀ s, J s → (∃ x, step s (.inr x) ∧ Q x) ∨ ∃ s', step s (.inl s') ∧ J s' ∧ μ s' < μ s) : ∀ n s, μ s < n → J s → ∃ x, Iter step s x ∧ Q x
 | 0, s, hn, _ => absurd hn (Nat.not_lt_zero _)
 | n + 1, s, hn, hJ => by
   rcases h s hJ with ⟨x, hx, hQ⟩ | ⟨s', hs, hJ', hm⟩
   · exact ⟨x, .done hx, hQ⟩
   · obtain ⟨x, hx, hQ⟩ := iter_go J Q μ h n s' (by omega) hJ'
     exact ⟨x, .more hs hx, hQ⟩
theorem lext {X Y : List Byte} (hl : X.length = Y.length) (h : ∀ q, q < X.length → lit X q = lit Y q) : X = Y := by
 rw [← lit_of X, ← lit_of Y, ← hl]
 exact List.map_congr_left fun q hq => h q (List.mem_range.1 hq)
theorem dl_congr {m : Nat} {f g : Nat → Byte} (h : ∀ q, q < m → f q = g q) : dl m f = dl m g := List.map_congr_left fun q hq => h q (List.mem_range.1 hq)
theorem rot_mask : ∀ n : Fin 32, 0 < n.val → (BitVec.ofInt 64 (-(n.val : Int)) &&& 31#64).toNat = 32 - n.val ∧ ((32#64) - (BitVec.ofInt 64 (-(n.val : Int)) &&& 31#64)).toNat = n.val := by decide +kernel
theorem right_ok (n : Nat) (h0 : 0 < n) (h1 : n < 32) (x : BitVec 32) : sha_right (n : Int) x (x.rotateRight n) := by
 refine ⟨by omega, _, rfl, ?_⟩
 obtain ⟨e1, e2⟩ := rot_mask ⟨n, h1⟩ h0
 rw [e1, e2, BitVec.rotateRight_def, Nat.mod_eq_of_lt h1, BitVec.or_comm]
theorem lit8 (s : H8) : ∀ i, i < 8 → lit [s.a, s.b, s.c, s.d, s.e, s.f, s.g, s.h] i = s.at i := fun i hi => by
 rcases (by omega : i = 0 ∨ i = 1 ∨ i = 2 ∨ i = 3 ∨ i = 4 ∨ i = 5 ∨ i = 6 ∨ i = 7) with rfl | rfl | rfl | rfl | rfl | rfl | rfl | rfl <;> rfl
theorem comp_ok (st : Nat → BitVec 32) (blk : Nat → BitVec 8) : sha_Compress st blk (compress K256 st blk) := by
 refine ⟨wbeg blk 16, ?_, wext blk 48, ?_, ?_⟩
 · refine Iter.count (fun i => (i, wbeg blk i)) 16 (fun i hi => ?_) ?_
   · unfold sha_Compress_l0; dsimp only; rw [if_pos hi]; rfl
   · unfold sha_Compress_l0; dsimp only; rw [if_neg (by omega)]
 · refine Iter.count (fun i => (16 + i, wext blk i)) 48 (fun i hi => ?_) ?_
   · unfold sha_Compress_l1; dsimp only
     rw [if_pos (by omega), show (((16 + i : Nat) : Int) - 2).toNat = 16 + i - 2 by omega, show (((16 + i : Nat) : Int) - 15).toNat = 16 + i - 15 by omega,
       show (((16 + i : Nat) : Int) - 7).toNat = 16 + i - 7 by omega, show (((16 + i : Nat) : Int) - 16).toNat = 16 + i - 16 by omega]
     exact ⟨by omega, by omega, by omega, by omega, _, right_ok 17 (by decide) (by decide) _, _, right_ok 19 (by decide) (by decide) _, _, right_ok 7 (by decide) (by decide) _, _, right_ok 18 (by decide) (by decide) _, rfl⟩
   · unfold sha_Compress_l1; dsimp only; rw [if_neg (by omega)]
 · refine ⟨ (rounds K256 (wext blk 48) (H8.of st) 64).a, (rounds K256 (wext blk 48) (H8.of st) 64).b, (rounds K256 (wext blk 48) (H8.of st) 64).c, (rounds K256 (wext blk 48) (H8.of st) 64).d, (rounds K256 (wext blk 48) (H8.of st) 64).e, (rounds K256 (wext blk 48) (H8.of st) 64).f, (rounds K256 (wext blk 48) (H8.of st) 64).g, (rounds K256 (wext blk 48) (H8.of st) 64).h, ?_, addTo st (rounds K256 (wext blk 48) (H8.of st) 64).at 8, ?_, rfl⟩
   · exact Iter.count (fun i =>
       ((rounds K256 (wext blk 48) (H8.of st) i).a, (rounds K256 (wext blk 48) (H8.of st) i).b, (rounds K256 (wext blk 48) (H8.of st) i).c, (rounds K256 (wext blk 48) (H8.of st) i).d, (rounds K256 (wext blk 48) (H8.of st) i).e, (rounds K256 (wext blk 48) (H8.of st) i).f, (rounds K256 (wext blk 48) (H8.of st) i).g, (rounds K256 (wext blk 48) (H8.of st) i).h, i)) 64 (fun i hi => by
       unfold sha_Compress_l2; dsimp only; rw [if_pos hi]
       exact ⟨_, right_ok 6 (by decide) (by decide) _, _, right_ok 11 (by decide) (by decide) _, _, right_ok 25 (by decide) (by decide) _, _, right_ok 2 (by decide) (by decide) _, _, right_ok 13 (by decide) (by decide) _, _, right_ok 22 (by decide) (by decide) _, rfl⟩) (by
       unfold sha_Compress_l2; dsimp only; rw [if_neg (by omega)])
   · refine Iter.count (fun i => (i, addTo st (rounds K256 (wext blk 48) (H8.of st) 64).at i)) 8 (fun i hi => ?_) ?_
     · unfold sha_Compress_l3; dsimp only; rw [if_pos hi, lit8 _ i hi]; rfl
     · unfold sha_Compress_l3; dsimp only; rw [if_neg (by omega)]
def Hold (X : List Byte) (st : Nat → BitVec 32) (blk : Nat → BitVec 8) : Prop := HashIs K256 H256 X.length (lit X) st blk
theorem Hold.nil : Hold [] H256 (fun _ => 0#8) := HashIs.zero _ _ _ _
theorem tmod_nat (N : Nat) : ((N : Int).tmod 64) = ((N % 64 : Nat) : Int) := by rw [Int.tmod_eq_emod_of_nonneg (by omega)]; omega
theorem spl_lit (X Y : List Byte) {c : Nat} (hc : c ≤ Y.length) : ∀ q, q < X.length + c → spl (lit X) X.length c (lit Y) q = lit (X ++ seg Y 0 c) q := fun q hq => by
 rw [lit_app]
 by_cases h : q < X.length
 · rw [if_pos h, spl_out _ _ _ _ _ (by omega)]
 · rw [if_neg h, spl_in _ _ _ _ _ (by omega), lit_seg hc (by omega), Nat.zero_add]
theorem write_ok {X Y : List Byte} {st : Nat → BitVec 32} {blk : Nat → BitVec 8} (h : Hold X st blk) (hl : X.length + Y.length < 4611686018427387904) :
   ∃ st' blk', sha_Hash_Write st blk (X.length : Int) Y (st', blk', ((X ++ Y).length : Int)) ∧ Hold (X ++ Y) st' blk' := by
 obtain ⟨⟨st', blk', n'⟩, hI, hn, hH⟩ := iter_go (step := sha_Hash_Write_l0)
   (fun s : (List Byte) × (Nat → BitVec 32) × (Nat → BitVec 8) × Int => ∃ Z, Z ++ s.1 = X ++ Y ∧ Hold Z s.2.1 s.2.2.1 ∧ s.2.2.2 = (Z.length : Int))
   (fun x : (Nat → BitVec 32) × (Nat → BitVec 8) × Int => x.2.2 = ((X ++ Y).length : Int) ∧ Hold (X ++ Y) x.1 x.2.1) (fun s => s.1.length) (by
   rintro ⟨b, st, blk, n⟩ ⟨Z, hZ, hH, rfl⟩
   have hZl : Z.length + b.length = X.length + Y.length := by rw [← List.length_append, hZ, List.length_append]
   unfold sha_Hash_Write_l0
   dsimp only at hZ hH ⊢
   by_cases hb : 0 < b.length
   · refine .inr ?_
     rw [tmod_nat, show ((Z.length % 64 : Nat) : Int).toNat = Z.length % 64 from rfl]
     have hm : min b.length (64 - Z.length % 64) ≤ b.length := Nat.min_le_left _ _
     have hm2 : min b.length (64 - Z.length % 64) ≤ 64 - Z.length % 64 := Nat.min_le_right _ _
     have hm3 : 0 < min b.length (64 - Z.length % 64) := by omega
     generalize hc : min b.length (64 - Z.length % 64) = c at hm hm2 hm3
     have e1 : (Z.length : Int) + (c : Int) = ((Z.length + c : Nat) : Int) := by omega
     have hsl : (seg b 0 c).length = c := by rw [seg_length hm]; omega
     have hll : (Z ++ seg b 0 c).length = Z.length + c := by rw [List.length_append, hsl]
     have hcat : (Z ++ seg b 0 c) ++ seg b c b.length = X ++ Y := by rw [List.append_assoc, seg_app ⟨by omega, hm, Nat.le_refl _⟩, seg_all]; exact hZ
     have hlt : (seg b c b.length).length < b.length := by rw [seg_length (Nat.le_refl _)]; omega
     simp only [if_pos hb]
     rw [e1, tmod_nat]
     by_cases hw : (Z.length + c) % 64 = 0
     · refine ⟨(seg b c b.length, compress K256 st (spl blk (Z.length % 64) c (lit b)), spl blk (Z.length % 64) c (lit b), ((Z.length + c : Nat) : Int)), ⟨by omega, by omega, by omega, by omega, ?_⟩, ⟨_, hcat, ?_, ?_⟩, hlt⟩
       · rw [if_pos (by omega)]; exact ⟨_, comp_ok _ _, rfl⟩
       · have := HashIs.congr (HashIs.whole (g := lit b) hH (show Z.length % 64 + c = 64 by omega)) (spl_lit Z b hm)
         unfold Hold; rw [hll]; exact this
       · rw [hll]
     · refine ⟨(seg b c b.length, st, spl blk (Z.length % 64) c (lit b), ((Z.length + c : Nat) : Int)), ⟨by omega, by omega, by omega, by omega, ?_⟩, ⟨_, hcat, ?_, ?_⟩, hlt⟩
       · rw [if_neg (by omega)]
       · have := HashIs.congr (HashIs.part (g := lit b) hH (show Z.length % 64 + c < 64 by omega)) (spl_lit Z b hm)
         unfold Hold; rw [hll]; exact this
       · rw [hll]
   · refine .inl ⟨_, by rw [if_neg hb], ?_⟩
     obtain rfl : b = [] := List.length_eq_zero_iff.1 (by omega)
     rw [List.append_nil] at hZ
     subst hZ
     exact ⟨rfl, hH⟩) (Y.length + 1) (Y, st, blk, (X.length : Int)) (Nat.lt_succ_self _) ⟨X, rfl, h, rfl⟩
 dsimp only at hn hH
 subst hn
 exact ⟨st', blk', ⟨_, _, _, hI, rfl⟩, hH⟩
def lenb (N i : Nat) : Byte := (((8#64) * (BitVec.ofNat 64 N)) >>> (56 - 8 * i)).setWidth 8
def pad0 (X : List Byte) : List Byte := X ++ 128#8 :: List.replicate ((119 - X.length % 64) % 64) 0#8
def padB (X : List Byte) : List Byte := pad0 X ++ (List.range 8).map (lenb X.length)
def shaL (X : List Byte) : Nat → Byte := dgb (hstN K256 H256 (lit (padB X)) ((padB X).length / 64)) 8
theorem pad0_length (X : List Byte) : (pad0 X).length = X.length + 1 + (119 - X.length % 64) % 64 := by
 unfold pad0; rw [List.length_append, List.length_cons, List.length_replicate]; omega
theorem dgb_congr {s s' : Nat → BitVec 32} : ∀ k, (∀ i, i < k → s i = s' i) → dgb s k = dgb s' k
 | 0, _ => rfl
 | k + 1, h => by simp only [dgb]; rw [dgb_congr k fun i hi => h i (by omega), h k (by omega)]
theorem sumdig_ok {X : List Byte} {st : Nat → BitVec 32} {blk : Nat → BitVec 8} (h : Hold X st blk) (hl : X.length < 2305843009213693952) :
   sha_Hash_Sum st blk (X.length : Int) (shaL X) := by
 obtain ⟨s1, b1, w1, h1⟩ := write_ok (Y := [128#8]) h (by simp only [List.length_cons, List.length_nil]; omega)
 refine ⟨_, _, _, rfl, _, _, _, w1, ?_⟩
 obtain ⟨⟨s2, b2, n2⟩, hI, hn, h2⟩ := iter_go (step := sha_Hash_Sum_l0)
   (fun s : (Nat → BitVec 32) × (Nat → BitVec 8) × Int => ∃ k, k ≤ (119 - X.length % 64) % 64 ∧ Hold (X ++ 128#8 :: List.replicate k 0#8) s.1 s.2.1 ∧ s.2.2 = ((X.length + 1 + k : Nat) : Int))
   (fun x : (Nat → BitVec 32) × (Nat → BitVec 8) × Int => x.2.2 = ((pad0 X).length : Int) ∧ Hold (pad0 X) x.1 x.2.1) (fun s => 1000000 + X.length - s.2.2.toNat) (by
   rintro ⟨st, blk, n⟩ ⟨k, hk, hH, hn⟩
   dsimp only at hH hn ⊢
   subst hn
   unfold sha_Hash_Sum_l0
   dsimp only
   rw [tmod_nat]
   have hL : (X ++ 128#8 :: List.replicate k 0#8).length = X.length + 1 + k := by rw [List.length_append, List.length_cons, List.length_replicate]; omega
   by_cases hw : (X.length + 1 + k) % 64 = 56
   · refine .inl ⟨_, by rw [if_neg (by omega)], ?_⟩
     have : k = (119 - X.length % 64) % 64 := by omega
     dsimp only
     rw [pad0_length, ← this]
     refine ⟨rfl, ?_⟩
     unfold pad0; rw [← this]; exact hH
   · obtain ⟨s3, b3, w3, h3⟩ := write_ok (Y := [0#8]) hH (by rw [hL, List.length_cons, List.length_nil]; omega)
     rw [hL] at w3
     have e3 : (X ++ 128#8 :: List.replicate k 0#8) ++ [0#8] = X ++ 128#8 :: List.replicate (k + 1) 0#8 := by
       rw [List.append_assoc, List.cons_append, ← List.replicate_succ']
     rw [e3] at w3 h3
     refine .inr ⟨_, by rw [if_pos (by omega)]; exact ⟨_, _, _, w3, rfl⟩, ⟨k + 1, by omega, h3, ?_⟩, ?_⟩
     · dsimp only; rw [List.length_append, List.length_cons, List.length_replicate]; omega
     · dsimp only; rw [List.length_append, List.length_cons, List.length_replicate]; omega) (1000001 + X.length) (s1, b1, ((X ++ [128#8]).length : Int)) (by dsimp only; omega) ⟨0, Nat.zero_le _, h1, by dsimp only; rw [List.length_append]; rfl⟩
 dsimp only at hn h2
 subst hn
 refine ⟨_, _, _, hI, ?_⟩
 obtain ⟨⟨s4, b4, n4⟩, hI4, hn4, h4⟩ := iter_go (step := sha_Hash_Sum_l1 (X.length : Int))
   (fun s : Nat × (Nat → BitVec 32) × (Nat → BitVec 8) × Int => s.1 ≤ 8 ∧ Hold (pad0 X ++ (List.range s.1).map (lenb X.length)) s.2.1 s.2.2.1 ∧ s.2.2.2 = (((pad0 X).length + s.1 : Nat) : Int))
   (fun x : (Nat → BitVec 32) × (Nat → BitVec 8) × Int => x.2.2 = ((padB X).length : Int) ∧ Hold (padB X) x.1 x.2.1) (fun s => 8 - s.1) (by
   rintro ⟨t, st, blk, n⟩ ⟨ht, hH, hn⟩
   dsimp only at ht hH hn ⊢
   subst hn
   unfold sha_Hash_Sum_l1
   dsimp only
   have hL : (pad0 X ++ (List.range t).map (lenb X.length)).length = (pad0 X).length + t := by rw [List.length_append, List.length_map, List.length_range]
   by_cases hw : t < 8
   · obtain ⟨s3, b3, w3, h3⟩ := write_ok (Y := [lenb X.length t]) hH (by rw [hL, List.length_cons, List.length_nil, pad0_length]; omega)
     rw [hL] at w3
     have e3 : (pad0 X ++ (List.range t).map (lenb X.length)) ++ [lenb X.length t] = pad0 X ++ (List.range (t + 1)).map (lenb X.length) := by
       rw [List.append_assoc, List.range_succ, List.map_append]; rfl
     rw [e3] at w3 h3
     refine .inr ⟨_, by rw [if_pos hw]; exact ⟨_, _, _, by simpa only [lenb, BitVec.ofInt_natCast] using w3, rfl⟩, ⟨by dsimp only; omega, h3, ?_⟩, by dsimp only; omega⟩
     dsimp only; rw [List.length_append, List.length_map, List.length_range]
   · refine .inl ⟨_, by rw [if_neg hw], ?_⟩
     obtain rfl : t = 8 := by omega
     exact ⟨by dsimp only; unfold padB; rw [List.length_append, List.length_map, List.length_range], hH⟩) 9 (0, s2, b2, ((pad0 X).length : Int)) (by dsimp only; omega) ⟨Nat.zero_le _, by simpa using h2, rfl⟩
 dsimp only at hn4 h4
 subst hn4
 refine ⟨_, _, _, hI4, dgb s4 8, ?_, ?_⟩
 · refine Iter.count (fun i => (i, dgb s4 i)) 8 (fun i hi => ?_) ?_
   · unfold sha_Hash_Sum_l2; dsimp only; rw [if_pos hi]; rfl
   · unfold sha_Hash_Sum_l2; dsimp only; rw [if_neg (by omega)]
 · exact dgb_congr 8 fun i hi => (h4.st_ i hi).symm
theorem flatten_take {P : List (List Byte)} {t : Nat} (h : t < P.length) : (P.take (t + 1)).flatten = (P.take t).flatten ++ P.getD t [] := by
 rw [List.take_succ_eq_append_getElem h, List.flatten_append]
 simp [List.getD, h]
theorem flatten_len (P : List (List Byte)) (t : Nat) : (P.take t).flatten.length ≤ P.flatten.length := by
 conv => rhs; rw [← List.take_append_drop t P, List.flatten_append, List.length_append]
 omega
theorem sum_ok {P : List (List Byte)} (hp : P.length < 4611686018427387904) (hl : P.flatten.length < 2305843009213693952) : sha_Sum P (shaL P.flatten) := by
 refine ⟨_, _, _, rfl, ?_⟩
 obtain ⟨⟨s2, b2, n2⟩, hI, hn, h2⟩ := iter_go (step := sha_Sum_l0 P)
   (fun s : Nat × (Nat → BitVec 32) × (Nat → BitVec 8) × Int => s.1 ≤ P.length ∧ Hold (P.take s.1).flatten s.2.1 s.2.2.1 ∧ s.2.2.2 = ((P.take s.1).flatten.length : Int))
   (fun x : (Nat → BitVec 32) × (Nat → BitVec 8) × Int => x.2.2 = (P.flatten.length : Int) ∧ Hold P.flatten x.1 x.2.1) (fun s => P.length - s.1) (by
   rintro ⟨t, st, blk, n⟩ ⟨ht, hH, hn⟩
   dsimp only at ht hH hn ⊢
   subst hn
   unfold sha_Sum_l0
   dsimp only
   by_cases hw : t < P.length
   · have hf := flatten_take hw
     have hfl := flatten_len P (t + 1)
     rw [hf, List.length_append] at hfl
     obtain ⟨s3, b3, w3, h3⟩ := write_ok (Y := P.getD t []) hH (by omega)
     rw [← hf] at w3 h3
     exact .inr ⟨_, by rw [if_pos hw]; exact ⟨hw, _, _, _, w3, by omega, rfl⟩, ⟨by dsimp only; omega, h3, rfl⟩, by dsimp only; omega⟩
   · refine .inl ⟨_, by rw [if_neg hw], ?_⟩
     obtain rfl : t = P.length := by omega
     rw [List.take_length] at hH ⊢
     exact ⟨rfl, hH⟩) (P.length + 1) (0, H256, (fun _ => 0#8), ((0 : Nat) : Int)) (by dsimp only; omega) ⟨Nat.zero_le _, Hold.nil, rfl⟩
 dsimp only at hn h2
 subst hn
 exact ⟨_, _, _, hI, _, sumdig_ok h2 hl, rfl⟩
end Go.Proofs.YthjkmhdgenmnoaaDoor
namespace Go.Proofs.YthjkmhdgenmnoaaDoor
set_option linter.unusedSimpArgs false
set_option linter.unusedVariables false
set_option linter.unusedSectionVars false
open Go Go.LW
set_option linter.unusedVariables false
def keyK (X : List Byte) : List Byte := if 64 < X.length then dl 32 (shaL X) else X
def padK (X : List Byte) (x : Byte) : List Byte := dl 64 fun q => lit (keyK X) q ^^^ x
def macL (X Z : List Byte) : Nat → Byte := shaL (padK X 92#8 ++ dl 32 (shaL (padK X 54#8 ++ Z)))
theorem padK_length (X : List Byte) (x : Byte) : (padK X x).length = 64 := dl_length _ _
theorem lit_out {X : List Byte} {q : Nat} (h : X.length ≤ q) : lit X q = 0#8 := by unfold lit; simp [List.getD, h]
def xorN (f : Nat → Byte) (x : Byte) (t : Nat) : Nat → Byte := fun q => if q < t then f q ^^^ x else f q
theorem xorN_succ (f : Nat → Byte) (x : Byte) (t : Nat) : upd (xorN f x t) t (xorN f x t t ^^^ x) = xorN f x (t + 1) := by
 funext q
 rw [upd_at]
 unfold xorN
 by_cases h : q = t
 · subst h; rw [if_pos rfl, if_neg (by omega), if_pos (by omega)]
 · rw [if_neg h]
   by_cases h2 : q < t
   · rw [if_pos h2, if_pos (by omega)]
   · rw [if_neg h2, if_neg (by omega)]
theorem pad_at (K : List Byte) (x : Byte) {c : Nat} (hc : c = K.length) : ∀ q, q < 64 → xorN (spl (fun _ => 0#8) 0 c (lit K)) x 64 q = lit K q ^^^ x := fun q hq => by
 subst hc
 unfold xorN
 rw [if_pos hq]
 by_cases h : q < K.length
 · rw [spl_in _ _ _ _ _ (by omega), Nat.sub_zero]
 · rw [spl_out _ _ _ _ _ (by omega), lit_out (by omega)]
theorem padded_ok {X : List Byte} (hl : X.length < 2305843009213693952) (x : Byte) : kdf_padded X x (padK X x) := by
 unfold kdf_padded
 by_cases h : 64 < X.length
 · rw [if_pos h]
   refine ⟨_, sum_ok (by simp) (by simpa using hl), xorN (spl (fun _ => 0#8) 0 32 (lit (dl 32 (shaL X)))) x 64, ?_, ?_⟩
   · simp only [List.flatten_cons, List.flatten_nil, List.append_nil]
     refine Iter.count (fun i => (i, xorN (spl (fun _ => 0#8) 0 32 (lit (dl 32 (shaL X)))) x i)) 64 (fun i hi => ?_) ?_
     · unfold kdf_padded_l0; dsimp only; rw [if_pos hi, xorN_succ]
     · unfold kdf_padded_l0; dsimp only; rw [if_neg (by omega)]
   · unfold padK keyK
     rw [if_pos h]
     exact (dl_congr (pad_at _ x (dl_length _ _).symm)).symm
 · rw [if_neg h]
   refine ⟨xorN (spl (fun _ => 0#8) 0 (min X.length 64) (lit X)) x 64, ?_, ?_⟩
   · refine Iter.count (fun i => (i, xorN (spl (fun _ => 0#8) 0 (min X.length 64) (lit X)) x i)) 64 (fun i hi => ?_) ?_
     · unfold kdf_padded_l1; dsimp only; rw [if_pos hi, xorN_succ]
     · unfold kdf_padded_l1; dsimp only; rw [if_neg (by omega)]
   · unfold padK keyK
     rw [if_neg h]
     exact (dl_congr (pad_at _ x (by omega))).symm
theorem mac_ok {X : List Byte} {P : List (List Byte)} (hx : X.length < 2305843009213693952) (hp : P.length < 4611686018427387904) (hl : P.flatten.length < 1152921504606846976) : kdf_Mac X P (macL X P.flatten) := by
 have hpad := padded_ok hx 54#8
 have hpl := padK_length X 54#8
 unfold macL
 generalize padK X 54#8 = K at hpad hpl ⊢
 obtain ⟨s1, b1, w1, h1⟩ := write_ok (Y := K) Hold.nil (by rw [hpl]; decide)
 rw [List.nil_append] at w1 h1
 refine ⟨_, _, _, rfl, _, hpad, _, _, _, w1, ?_⟩
 obtain ⟨⟨s2, b2, n2⟩, hI, hn, h2⟩ := iter_go (step := kdf_Mac_l0 P)
   (fun s : Nat × (Nat → BitVec 32) × (Nat → BitVec 8) × Int => s.1 ≤ P.length ∧ Hold (K ++ (P.take s.1).flatten) s.2.1 s.2.2.1 ∧ s.2.2.2 = ((K ++ (P.take s.1).flatten).length : Int))
   (fun x : (Nat → BitVec 32) × (Nat → BitVec 8) × Int => x.2.2 = ((K ++ P.flatten).length : Int) ∧ Hold (K ++ P.flatten) x.1 x.2.1) (fun s => P.length - s.1) (by
   rintro ⟨t, st, blk, n⟩ ⟨ht, hH, hn⟩
   dsimp only at ht hH hn ⊢
   subst hn
   unfold kdf_Mac_l0
   dsimp only
   by_cases hw : t < P.length
   · have hf := flatten_take hw
     have hfl := flatten_len P (t + 1)
     rw [hf, List.length_append] at hfl
     obtain ⟨s3, b3, w3, h3⟩ := write_ok (Y := P.getD t []) hH (by rw [List.length_append, hpl]; omega)
     rw [List.append_assoc, ← hf] at w3 h3
     exact .inr ⟨_, by rw [if_pos hw]; exact ⟨hw, _, _, _, w3, by omega, rfl⟩, ⟨by dsimp only; omega, h3, rfl⟩, by dsimp only; omega⟩
   · refine .inl ⟨_, by rw [if_neg hw], ?_⟩
     obtain rfl : t = P.length := by omega
     rw [List.take_length] at hH ⊢
     exact ⟨rfl, hH⟩) (P.length + 1) (0, s1, b1, ((K).length : Int)) (by dsimp only; omega) ⟨Nat.zero_le _, by dsimp only; rw [List.take_zero, List.flatten_nil, List.append_nil]; exact h1, by dsimp only; rw [List.take_zero, List.flatten_nil, List.append_nil]⟩
 dsimp only at hn h2
 subst hn
 refine ⟨_, _, _, hI, _, sumdig_ok h2 (by rw [List.length_append, hpl]; omega), _, padded_ok hx _, _, sum_ok (by simp) (by simp only [List.flatten_cons, List.flatten_nil, List.append_nil, List.length_append, padK_length, dl_length]; decide), ?_⟩
 simp only [List.flatten_cons, List.flatten_nil, List.append_nil]
theorem extract_ok {X Z : List Byte} (hx : X.length < 2305843009213693952) (hl : Z.length < 1152921504606846976) : kdf_Extract X Z (macL X Z) := by
 have := mac_ok (P := [Z]) hx (by simp) (by simpa using hl)
 simp only [List.flatten_cons, List.flatten_nil, List.append_nil] at this
 exact ⟨_, this, rfl⟩
def expT (prk info : List Byte) : Nat → List Byte
 | 0 => []
 | i + 1 => dl 32 (macL prk (expT prk info i ++ (info ++ [BitVec.ofNat 8 (i + 1)])))
def expO (prk info : List Byte) : Nat → List Byte
 | 0 => []
 | i + 1 => expO prk info i ++ expT prk info (i + 1)
theorem expT_length (prk info : List Byte) : ∀ i, (expT prk info (i + 1)).length = 32 := fun i => dl_length _ _
theorem expT_le (prk info : List Byte) : ∀ i, (expT prk info i).length ≤ 32
 | 0 => Nat.zero_le _
 | i + 1 => by rw [expT_length]; omega
theorem expO_length (prk info : List Byte) : ∀ i, (expO prk info i).length = 32 * i
 | 0 => rfl
 | i + 1 => by show (expO prk info i ++ expT prk info (i + 1)).length = _; rw [List.length_append, expO_length prk info i, expT_length]; omega
def expL (prk info : List Byte) (n : Nat) : List Byte := seg (expO prk info ((n + 31) / 32)) 0 n
theorem expL_length (prk info : List Byte) (n : Nat) : (expL prk info n).length = n := by
 unfold expL; rw [seg_length (by rw [expO_length]; omega)]; omega
theorem expand_ok {prk info : List Byte} {n : Nat} (hp : prk.length < 2305843009213693952) (hi : info.length < 1000000) (hn : n ≤ 8160) :
   kdf_Expand prk info (n : Int) (expL prk info n, 0) := by
 unfold kdf_Expand
 rw [if_neg (by omega), if_neg (by omega)]
 refine ⟨by omega, by omega, expO prk info ((n + 31) / 32), ?_, by omega, by rw [expO_length]; omega, rfl⟩
 refine Iter.count (fun i => (expO prk info i, expT prk info i, i + 1)) ((n + 31) / 32) (fun i hi2 => ?_) ?_
 · unfold kdf_Expand_l0; dsimp only
   have hl := expO_length prk info i
   have hl2 := expT_le prk info i
   rw [if_pos (by omega)]
   refine ⟨_, mac_ok hp (by simp) (by simp only [List.flatten_cons, List.flatten_nil, List.append_nil, List.length_append, List.length_cons, List.length_nil]; omega), by omega, by omega, ?_⟩
   simp only [List.flatten_cons, List.flatten_nil, List.append_nil]
   rfl
 · unfold kdf_Expand_l0; dsimp only
   have hl := expO_length prk info ((n + 31) / 32)
   rw [if_neg (by omega)]
theorem derive_ok {salt key info : List Byte} {n : Nat} (hs : salt.length < 2305843009213693952) (hk : key.length < 1152921504606846976) (hi : info.length < 1000000) (hn : n ≤ 8160) :
   kdf_Derive salt key info (n : Int) (expL (dl 32 (macL salt key)) info n, 0) :=
 ⟨_, extract_ok hs hk, _, _, expand_ok (by rw [dl_length]; decide) hi hn, rfl⟩
end Go.Proofs.YthjkmhdgenmnoaaDoor
namespace Go.Proofs.YthjkmhdgenmnoaaDoor
set_option linter.unusedSimpArgs false
set_option linter.unusedVariables false
set_option linter.unusedSectionVars false
open Go Go.LW
def wdR (x : BitVec 32) : BitVec 64 := x.setWidth 64
theorem wdR_toNat (x : BitVec 32) : (wdR x).toNat = x.toNat := by
 unfold wdR; rw [BitVec.toNat_setWidth]; have := x.isLt; omega
theorem or_add {a b i : Nat} (h : b < 2 ^ i) : a * 2 ^ i ||| b = a * 2 ^ i + b := by
 rw [← Nat.shiftLeft_eq, Nat.shiftLeft_add_eq_or_of_lt h]
theorem rot1 (x : BitVec 32) : wdR x / 2#64 + wdR x % 2#64 * 2147483648#64 = wdR (x.rotateRight 1) := by
 apply BitVec.eq_of_toNat_eq
 have hx := x.isLt
 rw [wdR_toNat, BitVec.toNat_rotateRight, BitVec.toNat_add, BitVec.toNat_mul, BitVec.toNat_umod, BitVec.toNat_udiv, wdR_toNat]
 have e : x.toNat <<< (32 - 1 % 32) % 2 ^ 32 = (x.toNat % 2) * 2 ^ 31 := by
   show x.toNat <<< 31 % 2 ^ 32 = _
   rw [Nat.shiftLeft_eq]; simp only [Nat.reducePow] at hx ⊢; omega
 have e2 : x.toNat >>> (1 % 32) = x.toNat / 2 := rfl
 rw [e, e2, Nat.or_comm, or_add (by omega)]
 simp only [BitVec.toNat_ofNat, Nat.reducePow, Nat.reduceMod] at hx ⊢
 omega
theorem rot_succ (x : BitVec 32) {n : Nat} (h : n + 1 < 32) : (x.rotateRight n).rotateRight 1 = x.rotateRight (n + 1) := by
 apply BitVec.eq_of_getLsbD_eq
 intro i hi
 rw [BitVec.getLsbD_rotateRight, BitVec.getLsbD_rotateRight, BitVec.getLsbD_rotateRight, BitVec.getLsbD_rotateRight, Nat.mod_eq_of_lt (show n + 1 < 32 by omega), Nat.mod_eq_of_lt (show n < 32 by omega), Nat.mod_eq_of_lt (show 1 < 32 by decide)]
 simp only [Bool.cond_decide]
 by_cases h1 : i < 31
 · rw [if_pos (by omega)]
   by_cases h2 : 1 + i < 32 - n
   · rw [if_pos h2, if_pos (by omega)]; congr 1; omega
   · rw [if_neg h2, if_neg (by omega)]
     rw [decide_eq_true (show 1 + i < 32 by omega), decide_eq_true (show i < 32 by omega)]
     congr 2; omega
 · obtain rfl : i = 31 := by omega
   rw [if_neg (by omega)]
   by_cases h2 : 31 - (32 - 1) < 32 - n
   · rw [if_pos h2, if_neg (by omega)]
     congr 2; omega
   · omega
theorem rot_zero (x : BitVec 32) : x.rotateRight 0 = x := by
 apply BitVec.eq_of_getLsbD_eq
 intro i hi
 rw [BitVec.getLsbD_rotateRight]
 simp only [Bool.cond_decide]
 rw [if_pos (by omega)]
 congr 1; omega
theorem turn_ok (n : Nat) (h : n < 32) (x : BitVec 32) : letheref02_turn (n : Int) (wdR x) (wdR (x.rotateRight n)) := by
 refine ⟨_, ?_, rfl⟩
 have key : Iter (letheref02_turn_l0 (n : Int)) (wdR (x.rotateRight 0), 0) (wdR (x.rotateRight n)) :=
   Iter.count (fun i => (wdR (x.rotateRight i), i)) n (fun i hi => by
     unfold letheref02_turn_l0; dsimp only
     rw [if_pos (by omega), rot1, rot_succ x (by omega)]
     exact ⟨by omega, rfl⟩) (by
     unfold letheref02_turn_l0; dsimp only; rw [if_neg (by omega)])
 rwa [rot_zero] at key
theorem move_ok (n : Nat) (h : n < 32) (x : BitVec 32) : letheref02_move (n : Int) (wdR x) (wdR (x >>> n)) := by
 refine ⟨_, ?_, rfl⟩
 have key : Iter (letheref02_move_l0 (n : Int)) (wdR (x >>> 0), 0) (wdR (x >>> n)) :=
   Iter.count (fun i => (wdR (x >>> i), i)) n (fun i hi => by
     unfold letheref02_move_l0; dsimp only
     have e : wdR (x >>> i) / 2#64 = wdR (x >>> (i + 1)) := by
       apply BitVec.eq_of_toNat_eq
       rw [BitVec.toNat_udiv, wdR_toNat, wdR_toNat, BitVec.toNat_ushiftRight, BitVec.toNat_ushiftRight, Nat.shiftRight_succ]; rfl
     rw [if_pos (by omega), e]
     exact ⟨by omega, rfl⟩) (by
     unfold letheref02_move_l0; dsimp only; rw [if_neg (by omega)])
 rwa [BitVec.ushiftRight_zero] at key
theorem wd_xor (a b : BitVec 32) : wdR a ^^^ wdR b = wdR (a ^^^ b) := by unfold wdR; rw [BitVec.setWidth_xor]
theorem wd_and (a b : BitVec 32) : wdR a &&& wdR b = wdR (a &&& b) := by unfold wdR; rw [BitVec.setWidth_and]
theorem wd_not (a : BitVec 32) : 4294967295#64 - wdR a = wdR (~~~a) := by
 apply BitVec.eq_of_toNat_eq
 have ha := a.isLt
 rw [BitVec.toNat_sub, wdR_toNat, wdR_toNat, BitVec.toNat_not]
 simp only [BitVec.toNat_ofNat]
 omega
theorem sum4 (a b c d : BitVec 32) : (wdR a + wdR b + wdR c + wdR d) % 4294967296#64 = wdR (a + b + c + d) := by
 apply BitVec.eq_of_toNat_eq
 have := a.isLt; have := b.isLt; have := c.isLt; have := d.isLt
 simp only [BitVec.toNat_umod, BitVec.toNat_add, wdR_toNat, BitVec.toNat_ofNat, Nat.reducePow, Nat.reduceMod]
 omega
theorem sum6 (x a b c d e : BitVec 32) : (wdR x + (wdR a + wdR b + wdR c + wdR d + wdR e)) % 4294967296#64 = wdR (x + (a + b + c + d + e)) := by
 apply BitVec.eq_of_toNat_eq
 have := a.isLt; have := b.isLt; have := c.isLt; have := d.isLt; have := e.isLt; have := x.isLt
 simp only [BitVec.toNat_umod, BitVec.toNat_add, wdR_toNat, BitVec.toNat_ofNat, Nat.reducePow, Nat.reduceMod]
 omega
theorem sum7 (a b c d e f g : BitVec 32) : (wdR a + wdR b + wdR c + wdR d + wdR e + (wdR f + wdR g)) % 4294967296#64 = wdR (a + b + c + d + e + (f + g)) := by
 apply BitVec.eq_of_toNat_eq
 have := a.isLt; have := b.isLt; have := c.isLt; have := d.isLt; have := e.isLt; have := f.isLt; have := g.isLt
 simp only [BitVec.toNat_umod, BitVec.toNat_add, wdR_toNat, BitVec.toNat_ofNat, Nat.reducePow, Nat.reduceMod]
 omega
theorem sum2 (a b : BitVec 32) : ((a.setWidth 64 + wdR b) % 4294967296#64).setWidth 32 = a + b := by
 apply BitVec.eq_of_toNat_eq
 have := a.isLt; have := b.isLt
 simp only [BitVec.toNat_setWidth, BitVec.toNat_umod, BitVec.toNat_add, wdR_toNat, BitVec.toNat_ofNat, Nat.reducePow, Nat.reduceMod]
 omega
def pkw (blk : Nat → Byte) (t : Nat) : Nat → BitVec 64
 | 0 => 0#64
 | k + 1 => pkw blk t k * 256#64 + (blk (4 * t + k)).setWidth 64
theorem be32_toNat (a b c d : BitVec 8) : (be32 a b c d).toNat = ((a.toNat * 256 + b.toNat) * 256 + c.toNat) * 256 + d.toNat := by
 have ha := a.isLt; have hb := b.isLt; have hc := c.isLt; have hd := d.isLt
 unfold be32
 simp only [BitVec.toNat_or, BitVec.toNat_shiftLeft, BitVec.toNat_setWidth, Nat.shiftLeft_eq]
 rw [Nat.mod_eq_of_lt (show a.toNat < 2 ^ 32 by omega), Nat.mod_eq_of_lt (show b.toNat < 2 ^ 32 by omega), Nat.mod_eq_of_lt (show c.toNat < 2 ^ 32 by omega), Nat.mod_eq_of_lt (show d.toNat < 2 ^ 32 by omega),
   Nat.mod_eq_of_lt (show a.toNat * 2 ^ 24 < 2 ^ 32 by omega), Nat.mod_eq_of_lt (show b.toNat * 2 ^ 16 < 2 ^ 32 by omega), Nat.mod_eq_of_lt (show c.toNat * 2 ^ 8 < 2 ^ 32 by omega)]
 rw [or_add (show b.toNat * 2 ^ 16 < 2 ^ 24 by omega), show a.toNat * 2 ^ 24 + b.toNat * 2 ^ 16 = (a.toNat * 2 ^ 8 + b.toNat) * 2 ^ 16 by omega, or_add (show c.toNat * 2 ^ 8 < 2 ^ 16 by omega),
   show (a.toNat * 2 ^ 8 + b.toNat) * 2 ^ 16 + c.toNat * 2 ^ 8 = ((a.toNat * 2 ^ 8 + b.toNat) * 2 ^ 8 + c.toNat) * 2 ^ 8 by omega, or_add (show d.toNat < 2 ^ 8 by omega)]
theorem pkw4 (blk : Nat → Byte) (t : Nat) : pkw blk t 4 = wdR (wfst blk t) := by
 apply BitVec.eq_of_toNat_eq
 rw [wdR_toNat]
 unfold wfst
 rw [be32_toNat]
 have h0 := (blk (4 * t)).isLt; have h1 := (blk (4 * t + 1)).isLt; have h2 := (blk (4 * t + 2)).isLt; have h3 := (blk (4 * t + 3)).isLt
 simp only [pkw, BitVec.toNat_add, BitVec.toNat_mul, BitVec.toNat_setWidth, BitVec.toNat_ofNat, Nat.add_zero]
 omega
theorem upd_self {α : Type} {m : Nat → α} {t : Nat} {v : α} (h : m t = v) : upd m t v = m := by
 funext q; rw [upd_at]; by_cases hq : q = t
 · subst hq; rw [if_pos rfl, h]
 · rw [if_neg hq]
theorem upd_upd {α : Type} {m : Nat → α} {t : Nat} {v u : α} : upd (upd m t v) t u = upd m t u := by
 funext q; rw [upd_at, upd_at, upd_at]; by_cases hq : q = t
 · rw [if_pos hq, if_pos hq]
 · rw [if_neg hq, if_neg hq, if_neg hq]
theorem wbeg_out (blk : Nat → Byte) : ∀ t q, t ≤ q → wbeg blk t q = 0#32
 | 0, _, _ => rfl
 | t + 1, q, h => by
   show upd (wbeg blk t) t _ q = _
   rw [upd_ne _ _ _ _ (by omega)]; exact wbeg_out blk t q (by omega)
theorem wd_upd (m : Nat → BitVec 32) (t : Nat) (v : BitVec 32) : upd (fun q => wdR (m q)) t (wdR v) = fun q => wdR (upd m t v q) := by
 funext q; rw [upd_at, upd_at]; by_cases hq : q = t
 · rw [if_pos hq, if_pos hq]
 · rw [if_neg hq, if_neg hq]
theorem sched_ok (blk : Nat → Byte) : letheref02_schedule blk (fun q => wdR (wext blk 48 q)) := by
 refine ⟨fun q => wdR (wbeg blk 16 q), ?_, _, ?_, rfl⟩
 · refine Iter.count (fun i => (i, fun q => wdR (wbeg blk i q))) 16 (fun i hi => ?_) ?_
   · unfold letheref02_schedule_l0; dsimp only
     rw [if_pos hi]
     refine ⟨upd (fun q => wdR (wbeg blk i q)) i (pkw blk i 4), ?_, ?_⟩
     · have key : Iter (letheref02_schedule_l1 blk i) (0, upd (fun q => wdR (wbeg blk i q)) i (pkw blk i 0)) (upd (fun q => wdR (wbeg blk i q)) i (pkw blk i 4)) :=
         Iter.count (fun k => (k, upd (fun q => wdR (wbeg blk i q)) i (pkw blk i k))) 4 (fun k hk => by
           unfold letheref02_schedule_l1; dsimp only
           rw [if_pos hk, upd_same, upd_upd]; rfl) (by
           unfold letheref02_schedule_l1; dsimp only; rw [if_neg (by omega)])
       rwa [upd_self (show wdR (wbeg blk i i) = pkw blk i 0 by rw [wbeg_out blk i i (Nat.le_refl _)]; rfl)] at key
     · rw [pkw4, wd_upd]; rfl
   · unfold letheref02_schedule_l0; dsimp only; rw [if_neg (by omega)]
 · refine Iter.count (fun i => (16 + i, fun q => wdR (wext blk i q))) 48 (fun i hi => ?_) ?_
   · unfold letheref02_schedule_l2; dsimp only
     rw [if_pos (by omega), show (((16 + i : Nat) : Int) - 2).toNat = 16 + i - 2 by omega, show (((16 + i : Nat) : Int) - 15).toNat = 16 + i - 15 by omega,
       show (((16 + i : Nat) : Int) - 7).toNat = 16 + i - 7 by omega, show (((16 + i : Nat) : Int) - 16).toNat = 16 + i - 16 by omega]
     refine ⟨by omega, by omega, by omega, _, turn_ok 7 (by decide) _, _, turn_ok 18 (by decide) _, _, move_ok 3 (by decide) _, by omega, by omega, by omega, _, turn_ok 17 (by decide) _, _, turn_ok 19 (by decide) _, _, move_ok 10 (by decide) _, by omega, by omega, ?_⟩
     rw [wd_xor, wd_xor, wd_xor, wd_xor, sum4, wd_upd]; rfl
   · unfold letheref02_schedule_l2; dsimp only; rw [if_neg (by omega)]
def V64 (s : H8) : Nat → BitVec 64 := fun q => if q < 8 then wdR (s.at q) else 0#64
def upto {α : Type} (z : α) (f : Nat → α) (i : Nat) : Nat → α := fun q => if q < i then f q else z
theorem upto_succ {α : Type} (z : α) (f : Nat → α) (i : Nat) : upd (upto z f i) i (f i) = upto z f (i + 1) := by
 funext q; rw [upd_at]; unfold upto
 by_cases hq : q = i
 · subst hq; rw [if_pos rfl, if_pos (by omega)]
 · rw [if_neg hq]
   by_cases h : q < i
   · rw [if_pos h, if_pos (by omega)]
   · rw [if_neg h, if_neg (by omega)]
theorem upto_zero {α : Type} (z : α) (f : Nat → α) : upto z f 0 = fun _ => z := by funext q; unfold upto; rw [if_neg (by omega)]
theorem at_of (st : Nat → BitVec 32) : ∀ q, q < 8 → (H8.of st).at q = st q := fun q hq => by
 rcases (by omega : q = 0 ∨ q = 1 ∨ q = 2 ∨ q = 3 ∨ q = 4 ∨ q = 5 ∨ q = 6 ∨ q = 7) with rfl | rfl | rfl | rfl | rfl | rfl | rfl | rfl <;> rfl
def shf (m : Nat → BitVec 64) (j : Nat) : Nat → BitVec 64 := fun q => if 8 - j ≤ q ∧ q < 8 then m (q - 1) else m q
theorem block_ok (st : Nat → BitVec 32) (blk : Nat → Byte) : letheref02_Block st blk (compress K256 st blk) := by
 refine ⟨_, sched_ok blk, V64 (H8.of st), ?_, V64 (rounds K256 (wext blk 48) (H8.of st) 64), ?_, _, ?_, rfl⟩
 · have key : Iter (letheref02_Block_l0 st) (0, upto 0#64 (fun q => wdR (st q)) 0) (upto 0#64 (fun q => wdR (st q)) 8) :=
     Iter.count (fun i => (i, upto 0#64 (fun q => wdR (st q)) i)) 8 (fun i hi => by
       unfold letheref02_Block_l0; dsimp only; rw [if_pos hi, ← upto_succ]; rfl) (by
       unfold letheref02_Block_l0; dsimp only; rw [if_neg (by omega)])
   rw [upto_zero] at key
   have e : upto 0#64 (fun q => wdR (st q)) 8 = V64 (H8.of st) := by
     funext q; unfold upto V64
     by_cases h : q < 8
     · rw [if_pos h, if_pos h, at_of st q h]
     · rw [if_neg h, if_neg h]
   rwa [e] at key
 · refine Iter.count (fun i => (i, V64 (rounds K256 (wext blk 48) (H8.of st) i))) 64 (fun i hi => ?_) ?_
   · unfold letheref02_Block_l1; dsimp only
     rw [if_pos hi]
     generalize hs : rounds K256 (wext blk 48) (H8.of st) i = s
     have hs1 : rounds K256 (wext blk 48) (H8.of st) (i + 1) = round (K256 i) (wext blk 48 i) s := by rw [← hs]; rfl
     rw [hs1]
     have v0 : V64 s 0 = wdR s.a := rfl
     have v1 : V64 s 1 = wdR s.b := rfl
     have v2 : V64 s 2 = wdR s.c := rfl
     have v4 : V64 s 4 = wdR s.e := rfl
     have v5 : V64 s 5 = wdR s.f := rfl
     have v6 : V64 s 6 = wdR s.g := rfl
     have v7 : V64 s 7 = wdR s.h := rfl
     rw [v0, v1, v2, v4, v5, v6, v7]
     refine ⟨_, turn_ok 2 (by decide) _, _, turn_ok 13 (by decide) _, _, turn_ok 22 (by decide) _, _, turn_ok 6 (by decide) _, _, turn_ok 11 (by decide) _, _, turn_ok 25 (by decide) _, shf (V64 s) 7, ?_, ?_⟩
     · have e0 : shf (V64 s) 0 = V64 s := by funext q; unfold shf; rw [if_neg (by omega)]
       have key : Iter letheref02_Block_l2 ((((7 - 0 : Nat)) : Int), shf (V64 s) 0) (shf (V64 s) 7) :=
         Iter.count (fun j => ((((7 - j : Nat)) : Int), shf (V64 s) j)) 7 (fun j hj => by
           unfold letheref02_Block_l2; dsimp only
           rw [if_pos (by omega)]
           refine ⟨by omega, by omega, by omega, by omega, ?_⟩
           have e1 : (((7 - j : Nat) : Int) - 1) = ((7 - (j + 1) : Nat) : Int) := by omega
           rw [e1]
           have e2 : (((7 - (j + 1) : Nat)) : Int).toNat = 7 - (j + 1) := rfl
           have e3 : (((7 - j : Nat)) : Int).toNat = 7 - j := rfl
           rw [e2, e3]
           have e4 : upd (shf (V64 s) j) (7 - j) (shf (V64 s) j (7 - (j + 1))) = shf (V64 s) (j + 1) := by
             funext q; rw [upd_at]
             by_cases hq : q = 7 - j
             · subst hq; rw [if_pos rfl]; unfold shf; rw [if_neg (by omega), if_pos (by omega)]; congr 1
             · rw [if_neg hq]; unfold shf
               by_cases h2 : 8 - j ≤ q ∧ q < 8
               · rw [if_pos h2, if_pos (by omega)]
               · rw [if_neg h2, if_neg (by omega)]
           rw [e4]) (by
           unfold letheref02_Block_l2; dsimp only; rw [if_neg (by omega)])
       rwa [e0] at key
     · have w4 : shf (V64 s) 7 4 = wdR s.d := rfl
       have k1 : K64 i = wdR (K256 i) := rfl
       rw [w4, k1, wd_not, wd_and, wd_and, wd_and, wd_and, wd_and, wd_xor, wd_xor, wd_xor, wd_xor, wd_xor, wd_xor, wd_xor, sum6, sum7]
       have e : upd (upd (shf (V64 s) 7) 4 (wdR (s.d + t1 (K256 i) (wext blk 48 i) s))) 0 (wdR (t1 (K256 i) (wext blk 48 i) s + t2 s)) = V64 (round (K256 i) (wext blk 48 i) s) := by
         funext q
         rw [upd_at, upd_at]
         by_cases h8 : q < 8
         · rcases (by omega : q = 0 ∨ q = 1 ∨ q = 2 ∨ q = 3 ∨ q = 4 ∨ q = 5 ∨ q = 6 ∨ q = 7) with rfl | rfl | rfl | rfl | rfl | rfl | rfl | rfl <;> rfl
         · rw [if_neg (by omega), if_neg (by omega)]; unfold shf V64; rw [if_neg (by omega), if_neg h8, if_neg h8]
       rw [← e]; rfl
   · unfold letheref02_Block_l1; dsimp only; rw [if_neg (by omega)]
 · refine Iter.count (fun i => (i, addTo st (rounds K256 (wext blk 48) (H8.of st) 64).at i)) 8 (fun i hi => ?_) ?_
   · unfold letheref02_Block_l3; dsimp only
     have e : V64 (rounds K256 (wext blk 48) (H8.of st) 64) i = wdR ((rounds K256 (wext blk 48) (H8.of st) 64).at i) := by unfold V64; rw [if_pos hi]
     rw [if_pos hi, e, sum2]; rfl
   · unfold letheref02_Block_l3; dsimp only; rw [if_neg (by omega)]; rfl
end Go.Proofs.YthjkmhdgenmnoaaDoor
namespace Go.Proofs.YthjkmhdgenmnoaaDoor
set_option linter.unusedSimpArgs false
set_option linter.unusedVariables false
set_option linter.unusedSectionVars false
open Go Go.LW
theorem begin_ok : letheref02_Begin H256 := by
 refine ⟨H256, ?_, rfl⟩
 have key : Iter (letheref02_Begin_l0) (0, upto 0#32 H256 0) (upto 0#32 H256 8) :=
   Iter.count (fun i => (i, upto 0#32 H256 i)) 8 (fun i hi => by
     unfold letheref02_Begin_l0; dsimp only
     have e : (H64 i).setWidth 32 = H256 i := by
       apply BitVec.eq_of_toNat_eq
       have := (H256 i).isLt
       unfold H64
       simp only [BitVec.toNat_setWidth, Nat.reducePow] at this ⊢
       omega
     rw [if_pos hi, e, upto_succ]) (by
     unfold letheref02_Begin_l0; dsimp only; rw [if_neg (by omega)])
 rw [upto_zero] at key
 have e : upto 0#32 H256 8 = H256 := by
   funext q; unfold upto
   by_cases h : q < 8
   · rw [if_pos h]
   · rw [if_neg h]; unfold H256
     simp [Array.getD, h]
 rwa [e] at key
theorem at_ok {b : List Byte} {i : Nat} (h : 64 * i + 64 ≤ b.length) (hb : b.length < 9223372036854775808) : letheref02_At b (i : Int) (upto 0#8 (fun q => lit b (64 * i + q)) 64) := by
 refine ⟨_, ?_, rfl⟩
 have key : Iter (letheref02_At_l0 b (i : Int)) (0, upto 0#8 (fun q => lit b (64 * i + q)) 0) (upto 0#8 (fun q => lit b (64 * i + q)) 64) :=
   Iter.count (fun k => (k, upto 0#8 (fun q => lit b (64 * i + q)) k)) 64 (fun k hk => by
     unfold letheref02_At_l0; dsimp only
     rw [if_pos hk, show ((64 * (i : Int)) + (k : Int)).toNat = 64 * i + k by omega, ← upto_succ]
     exact ⟨by omega, by omega, by omega, rfl⟩) (by
     unfold letheref02_At_l0; dsimp only; rw [if_neg (by omega)])
 rwa [upto_zero] at key
theorem dgb_upto (st : Nat → BitVec 32) (i : Nat) : dgb st i = upto 0#8 (dig st) (4 * i) := by
 funext q; unfold upto
 by_cases h : q < 4 * i
 · rw [if_pos h, dgb_at st i q h]
 · rw [if_neg h]
   have : ∀ i, 4 * i ≤ q → dgb st i q = 0#8 := by
     intro i
     induction i with
     | zero => intro _; rfl
     | succ i ih =>
       intro hq
       simp only [dgb, upd_at]
       rw [if_neg (by omega), if_neg (by omega), if_neg (by omega), if_neg (by omega)]
       exact ih (by omega)
   exact this i (by omega)
def bo (st : Nat → BitVec 32) (i j : Nat) : Nat → Byte := fun q => if 4 * i + 4 - j ≤ q ∧ q < 4 * i + 4 then dig st q else if q < 4 * i then dig st q else 0#8
theorem bytesOf_ok (st : Nat → BitVec 32) : letheref02_bytesOf st (dgb st 8) := by
 refine ⟨dgb st 8, ?_, rfl⟩
 refine Iter.count (fun i => (i, dgb st i)) 8 (fun i hi => ?_) ?_
 · unfold letheref02_bytesOf_l0; dsimp only
   rw [if_pos hi]
   refine ⟨dgb st (i + 1), ?_, rfl⟩
   have e0 : bo st i 0 = dgb st i := by
     rw [dgb_upto]; funext q; unfold bo upto; rw [if_neg (by omega)]
   have e4 : bo st i 4 = dgb st (i + 1) := by
     rw [dgb_upto]; funext q; unfold bo upto
     by_cases h1 : q < 4 * i
     · rw [if_neg (by omega), if_pos h1, if_pos (by omega)]
     · by_cases h2 : q < 4 * i + 4
       · rw [if_pos (by omega), if_pos (by omega)]
       · rw [if_neg (by omega), if_neg h1, if_neg (by omega)]
   have key : Iter (letheref02_bytesOf_l1 i) (st i >>> (8 * 0), (3 - ((0 : Nat) : Int)), bo st i 0) (bo st i 4) :=
     Iter.count (fun j => (st i >>> (8 * j), (3 - ((j : Nat) : Int)), bo st i j)) 4 (fun j hj => by
       unfold letheref02_bytesOf_l1; dsimp only
       have h1 : st i >>> (8 * j) / 256#32 = st i >>> (8 * (j + 1)) := by
         apply BitVec.eq_of_toNat_eq
         rw [BitVec.toNat_udiv, BitVec.toNat_ushiftRight, BitVec.toNat_ushiftRight, Nat.mul_succ, Nat.shiftRight_add]
         simp only [BitVec.toNat_ofNat, Nat.reducePow, Nat.reduceMod, Nat.shiftRight_eq_div_pow]
       have h2 : (st i >>> (8 * j) % 256#32).setWidth 8 = (st i >>> (8 * j)).setWidth 8 := by
         apply BitVec.eq_of_toNat_eq
         simp only [BitVec.toNat_setWidth, BitVec.toNat_umod, BitVec.toNat_ofNat, Nat.reducePow, Nat.reduceMod]
         omega
       rw [if_pos (by omega), show ((((4 * i : Nat)) : Int) + (3 - (j : Int))).toNat = 4 * i + 3 - j by omega, h1, h2]
       refine ⟨by omega, by omega, by omega, ?_⟩
       have h3 : (3 - (j : Int) - 1) = 3 - ((j + 1 : Nat) : Int) := by omega
       have h4 : upd (bo st i j) (4 * i + 3 - j) ((st i >>> (8 * j)).setWidth 8) = bo st i (j + 1) := by
         funext q; rw [upd_at]
         by_cases hq : q = 4 * i + 3 - j
         · subst hq; rw [if_pos rfl]; unfold bo; rw [if_pos (by omega)]
           unfold dig
           rw [show (4 * i + 3 - j) / 4 = i by omega, show 24 - 8 * ((4 * i + 3 - j) % 4) = 8 * j by omega]
         · rw [if_neg hq]; unfold bo
           by_cases h5 : 4 * i + 4 - j ≤ q ∧ q < 4 * i + 4
           · rw [if_pos h5, if_pos (by omega)]
           · rw [if_neg h5, if_neg (show ¬ (4 * i + 4 - (j + 1) ≤ q ∧ q < 4 * i + 4) by omega)]
       rw [h3, h4]) (by
       unfold letheref02_bytesOf_l1; dsimp only; rw [if_neg (by omega)])
   rw [e0, e4, Nat.mul_zero, BitVec.ushiftRight_zero] at key
   exact key
 · unfold letheref02_bytesOf_l0; dsimp only; rw [if_neg (by omega)]
theorem len_byte (N i : Nat) (h : i < 8) : ((BitVec.ofNat 64 N * 8#64) >>> (8 * (7 - i)) % 256#64).setWidth 8 = lenb N i := by
 unfold lenb
 rw [BitVec.mul_comm, show 56 - 8 * i = 8 * (7 - i) by omega]
 apply BitVec.eq_of_toNat_eq
 simp only [BitVec.toNat_setWidth, BitVec.toNat_umod, BitVec.toNat_ofNat, Nat.reducePow, Nat.reduceMod]
 omega
def tl (N j : Nat) : Nat → Byte := fun q => if 8 - j ≤ q ∧ q < 8 then lenb N q else 0#8
theorem padded_ok2 {X : List Byte} (h : X.length < 70368744177664) : letheref02_padded X (padB X) := by
 have hz : (119 - X.length % 64) % 64 < 64 := by omega
 refine ⟨by omega, by rw [List.nil_append, List.length_singleton]; omega, pad0 X, ?_, pad0 X, tl X.length 8, ?_, ?_, ?_⟩
 · rw [List.nil_append]
   have key : Iter (letheref02_padded_l0) (X ++ 128#8 :: List.replicate 0 0#8) (X ++ 128#8 :: List.replicate ((119 - X.length % 64) % 64) 0#8) :=
     Iter.count (fun i => X ++ 128#8 :: List.replicate i 0#8) ((119 - X.length % 64) % 64) (fun i hi => by
       unfold letheref02_padded_l0
       have hl : (X ++ 128#8 :: List.replicate i 0#8).length = X.length + 1 + i := by rw [List.length_append, List.length_cons, List.length_replicate]; omega
       rw [hl, if_pos (by omega)]
       refine ⟨by rw [List.length_singleton]; omega, ?_⟩
       rw [List.append_assoc, List.cons_append, List.replicate_succ']) (by
       unfold letheref02_padded_l0
       have hl : (X ++ 128#8 :: List.replicate ((119 - X.length % 64) % 64) 0#8).length = X.length + 1 + (119 - X.length % 64) % 64 := by rw [List.length_append, List.length_cons, List.length_replicate]; omega
       rw [hl, if_neg (by omega)])
   exact key
 · have e0 : tl X.length 0 = fun _ => 0#8 := by funext q; unfold tl; rw [if_neg (by omega)]
   have key : Iter (letheref02_padded_l1) (pad0 X, (BitVec.ofNat 64 X.length * 8#64) >>> (8 * 0), (7 - ((0 : Nat) : Int)), tl X.length 0) (pad0 X, tl X.length 8) :=
     Iter.count (fun j => (pad0 X, (BitVec.ofNat 64 X.length * 8#64) >>> (8 * j), (7 - ((j : Nat) : Int)), tl X.length j)) 8 (fun j hj => by
       unfold letheref02_padded_l1; dsimp only
       have h1 : (BitVec.ofNat 64 X.length * 8#64) >>> (8 * j) / 256#64 = (BitVec.ofNat 64 X.length * 8#64) >>> (8 * (j + 1)) := by
         generalize BitVec.ofNat 64 X.length * 8#64 = y
         apply BitVec.eq_of_toNat_eq
         rw [BitVec.toNat_udiv, BitVec.toNat_ushiftRight, BitVec.toNat_ushiftRight, Nat.mul_succ, Nat.shiftRight_add]
         simp only [BitVec.toNat_ofNat, Nat.reducePow, Nat.reduceMod, Nat.shiftRight_eq_div_pow]
       rw [if_pos (by omega), h1, show (7 - (j : Int)).toNat = 7 - j by omega]
       refine ⟨by omega, by omega, ?_⟩
       have h2 := len_byte X.length (7 - j) (by omega)
       rw [show 8 * (7 - (7 - j)) = 8 * j by omega] at h2
       have h3 : (7 - (j : Int) - 1) = 7 - ((j + 1 : Nat) : Int) := by omega
       have h4 : upd (tl X.length j) (7 - j) (lenb X.length (7 - j)) = tl X.length (j + 1) := by
         funext q; rw [upd_at]
         by_cases hq : q = 7 - j
         · subst hq; rw [if_pos rfl]; unfold tl; rw [if_pos (by omega)]
         · rw [if_neg hq]; unfold tl
           by_cases h5 : 8 - j ≤ q ∧ q < 8
           · rw [if_pos h5, if_pos (by omega)]
           · rw [if_neg h5, if_neg (by omega)]
       rw [h2, h3, h4]) (by
       unfold letheref02_padded_l1; dsimp only; rw [if_neg (by omega)])
   rw [e0, Nat.mul_zero, BitVec.ushiftRight_zero] at key
   exact key
 · show (pad0 X).length + 8 ≤ _
   unfold pad0
   rw [List.length_append, List.length_cons, List.length_replicate]
   omega
 · have e : ∀ i, i < 8 → tl X.length 8 i = lenb X.length i := fun i hi => by unfold tl; rw [if_pos (by omega)]
   rw [e 0 (by decide), e 1 (by decide), e 2 (by decide), e 3 (by decide), e 4 (by decide), e 5 (by decide), e 6 (by decide), e 7 (by decide)]
   rfl
theorem padB_len2 (X : List Byte) : (padB X).length % 64 = 0 ∧ (padB X).length ≤ X.length + 72 ∧ 64 ≤ (padB X).length := by
 unfold padB pad0
 rw [List.length_append, List.length_append, List.length_cons, List.length_replicate, List.length_map, List.length_range]
 omega
theorem compress_ext {KK s : Nat → BitVec 32} {b b' : Nat → Byte} (h : ∀ q, q < 64 → b q = b' q) : compress KK s b = compress KK s b' := by
 unfold compress; rw [wext_congr h]
theorem refsum_ok {X : List Byte} (h : X.length < 70368744177664) : letheref02_Sum X (shaL X) := by
 have hp := padB_len2 X
 refine ⟨padB X, padded_ok2 h, H256, begin_ok, hstN K256 H256 (lit (padB X)) ((padB X).length / 64), ?_, _, bytesOf_ok _, rfl⟩
 refine Iter.count (fun i => (padB X, i, hstN K256 H256 (lit (padB X)) i)) ((padB X).length / 64) (fun i hi => ?_) ?_
 · unfold letheref02_Sum_l0; dsimp only
   refine ⟨by omega, ?_⟩
   rw [if_pos hi]
   refine ⟨_, at_ok (by omega) (by omega), _, block_ok _ _, by omega, ?_⟩
   have e : hstN K256 H256 (lit (padB X)) (i + 1) = compress K256 (hstN K256 H256 (lit (padB X)) i) (upto 0#8 (fun q => lit (padB X) (64 * i + q)) 64) := by
     show compress _ _ _ = _
     exact compress_ext fun q hq => by unfold upto; rw [if_pos hq]
   rw [e]
 · unfold letheref02_Sum_l0; dsimp only
   exact ⟨by omega, by rw [if_neg (by omega)]⟩
end Go.Proofs.YthjkmhdgenmnoaaDoor
namespace Go.Proofs.YthjkmhdgenmnoaaDoor
set_option linter.unusedSimpArgs false
set_option linter.unusedVariables false
set_option linter.unusedSectionVars false
open Go Go.LW
def nb (k : Nat) (x : Int) : Nat → Nat
 | 0 => 0
 | i + 1 => if (((k / 2 ^ i % 2 : Nat)) : Int) ≠ (x.tdiv ((2 ^ i : Nat) : Int)).tmod 2 then nb k x i + 2 ^ i else nb k x i
theorem nb_all : ∀ k : Fin 256, BitVec.ofNat 8 (nb k.val 54 8) = BitVec.ofNat 8 k.val ^^^ 54#8 ∧ BitVec.ofNat 8 (nb k.val 92 8) = BitVec.ofNat 8 k.val ^^^ 92#8 := by decide +kernel
theorem nb_le (k : Nat) (x : Int) : ∀ i, nb k x i < 2 ^ i
 | 0 => by show 0 < 1; decide
 | i + 1 => by
   have := nb_le k x i
   unfold nb
   rw [Nat.pow_succ]
   split <;> omega
theorem nb_byte (b : Byte) {x : Int} (hx : x = 54 ∨ x = 92) : BitVec.ofNat 8 (nb b.toNat x 8) = b ^^^ BitVec.ofInt 8 x := by
 have h := nb_all ⟨b.toNat, b.isLt⟩
 have e : BitVec.ofNat 8 b.toNat = b := by simp
 dsimp only at h
 rw [e] at h
 rcases hx with rfl | rfl
 · exact h.1
 · exact h.2
theorem bit_bd {i : Nat} (hi : i < 8) {x : Int} (hx : x = 54 ∨ x = 92) : 0 < 2 ^ i ∧ (2 ^ i : Nat) < 256 ∧ (((2 ^ i : Nat)) : Int) ≠ 0 ∧ -9223372036854775808 ≤ x.tdiv ((2 ^ i : Nat) : Int) ∧ x.tdiv ((2 ^ i : Nat) : Int) ≤ 9223372036854775807 := by
 have h : ∀ i : Fin 8, ∀ x ∈ [(54 : Int), 92], 0 < 2 ^ i.val ∧ (2 ^ i.val : Nat) < 256 ∧ (((2 ^ i.val : Nat)) : Int) ≠ 0 ∧ -9223372036854775808 ≤ x.tdiv ((2 ^ i.val : Nat) : Int) ∧ x.tdiv ((2 ^ i.val : Nat) : Int) ≤ 9223372036854775807 := by decide +kernel
 exact h ⟨i, hi⟩ x (by rcases hx with rfl | rfl <;> simp)
def trn (K : List Byte) (x : Byte) (i : Nat) : List Byte := dl 64 fun q => if q < i then lit K q ^^^ x else 0#8
theorem trn_set (K : List Byte) (x : Byte) {i : Nat} (hi : i < 64) : (trn K x i).set i (lit K i ^^^ x) = trn K x (i + 1) := by
 have hl : (trn K x i).length = 64 := dl_length _ _
 refine lext (by rw [List.length_set, hl]; exact (dl_length _ _).symm) fun q hq => ?_
 rw [List.length_set, hl] at hq
 have e : ∀ v, lit ((trn K x i).set i v) q = if q = i then v else lit (trn K x i) q := fun v => by
   unfold lit
   rw [List.getD_eq_getElem?_getD, List.getD_eq_getElem?_getD, List.getElem?_set]
   by_cases h : q = i
   · subst h; rw [if_pos rfl, if_pos rfl, if_pos (by omega)]; rfl
   · rw [if_neg (fun h2 => h h2.symm), if_neg h]
 rw [e]
 unfold trn
 rw [lit_dl _ hq, lit_dl _ hq]
 by_cases h : q = i
 · subst h; rw [if_pos rfl, if_pos (by omega)]
 · rw [if_neg h]
   by_cases h2 : q < i
   · rw [if_pos h2, if_pos (by omega)]
   · rw [if_neg h2, if_neg (by omega)]
theorem trn_zero (K : List Byte) (x : Byte) : List.replicate 64 0#8 = trn K x 0 := by
 refine lext (by rw [List.length_replicate]; exact (dl_length _ _).symm) fun q hq => ?_
 rw [List.length_replicate] at hq
 unfold trn
 rw [lit_dl _ hq, if_neg (by omega)]
 unfold lit
 rw [List.getD_eq_getElem?_getD, List.getElem?_replicate, if_pos hq]; rfl
theorem trn_all (K : List Byte) (x : Byte) : trn K x 64 = dl 64 fun q => lit K q ^^^ x := dl_congr fun q hq => if_pos hq
theorem turned_ok {X : List Byte} (hX : X.length < 70368744177664) {x : Int} (hx : x = 54 ∨ x = 92) : letheref03_turned X x (padK X (BitVec.ofInt 8 x)) := by
 unfold letheref03_turned
 by_cases h : 64 < X.length
 · rw [if_pos h]
   have eP : padK X (BitVec.ofInt 8 x) = trn (dl 32 (shaL X)) (BitVec.ofInt 8 x) 64 := by
     rw [trn_all]; unfold padK keyK; rw [if_pos h]
   generalize hK : dl 32 (shaL X) = K at eP
   have hKl : K.length = 32 := by rw [← hK]; exact dl_length _ _
   refine ⟨_, refsum_ok hX, _, ?_, rfl⟩
   rw [eP, trn_zero K (BitVec.ofInt 8 x), hK]
   refine Iter.count (fun i => (K, trn K (BitVec.ofInt 8 x) i, i)) 64 (fun i hi => ?_) ?_
   · unfold letheref03_turned_l0; dsimp only
     rw [if_pos hi]
     refine ⟨K, trn K (BitVec.ofInt 8 x) i, (lit K i).toNat, ?_, K, trn K (BitVec.ofInt 8 x) i, nb (lit K i).toNat x 8, ?_, by rw [List.length_replicate]; exact hi, ?_⟩
     · by_cases h2 : i < 32
       · rw [if_pos h2]; exact ⟨h2, rfl, rfl, rfl⟩
       · rw [if_neg h2]; exact ⟨rfl, rfl, by rw [lit_out (by omega)]; rfl⟩
     · refine Iter.count (fun j => (K, trn K (BitVec.ofInt 8 x) i, nb (lit K i).toNat x j, 2 ^ j)) 8 (fun j hj => ?_) ?_
       · unfold letheref03_turned_l1; dsimp only
         have hb := bit_bd hj hx
         have hk := (lit K i).isLt
         have hn := nb_le (lit K i).toNat x j
         rw [if_pos hb.2.1]
         refine ⟨hb.1, by omega, hb.2.2.1, ⟨hb.2.2.2.1, hb.2.2.2.2⟩, ?_⟩
         rw [nb]
         by_cases hc : ((((lit K i).toNat / 2 ^ j % 2 : Nat)) : Int) ≠ (x.tdiv ((2 ^ j : Nat) : Int)).tmod 2
         · rw [if_pos hc, if_pos hc]; exact ⟨by omega, rfl⟩
         · rw [if_neg hc, if_neg hc]; rfl
       · unfold letheref03_turned_l1; dsimp only; rw [if_neg (by decide)]
     · rw [nb_byte _ hx, trn_set K _ hi]
   · unfold letheref03_turned_l0; dsimp only; rw [if_neg (by omega)]
 · rw [if_neg h]
   have eP : padK X (BitVec.ofInt 8 x) = trn X (BitVec.ofInt 8 x) 64 := by
     rw [trn_all]; unfold padK keyK; rw [if_neg h]
   refine ⟨_, ?_, rfl⟩
   rw [eP, trn_zero X (BitVec.ofInt 8 x)]
   refine Iter.count (fun i => (trn X (BitVec.ofInt 8 x) i, i)) 64 (fun i hi => ?_) ?_
   · unfold letheref03_turned_l2; dsimp only
     rw [if_pos hi]
     refine ⟨trn X (BitVec.ofInt 8 x) i, (lit X i).toNat, ?_, trn X (BitVec.ofInt 8 x) i, nb (lit X i).toNat x 8, ?_, by rw [List.length_replicate]; exact hi, ?_⟩
     · by_cases h2 : i < X.length
       · rw [if_pos h2]; exact ⟨h2, rfl, rfl⟩
       · rw [if_neg h2]; exact ⟨rfl, by rw [lit_out (by omega)]; rfl⟩
     · refine Iter.count (fun j => (trn X (BitVec.ofInt 8 x) i, nb (lit X i).toNat x j, 2 ^ j)) 8 (fun j hj => ?_) ?_
       · unfold letheref03_turned_l3; dsimp only
         have hb := bit_bd hj hx
         have hk := (lit X i).isLt
         have hn := nb_le (lit X i).toNat x j
         rw [if_pos hb.2.1]
         refine ⟨hb.1, by omega, hb.2.2.1, ⟨hb.2.2.2.1, hb.2.2.2.2⟩, ?_⟩
         rw [nb]
         by_cases hc : ((((lit X i).toNat / 2 ^ j % 2 : Nat)) : Int) ≠ (x.tdiv ((2 ^ j : Nat) : Int)).tmod 2
         · rw [if_pos hc, if_pos hc]; exact ⟨by omega, rfl⟩
         · rw [if_neg hc, if_neg hc]; rfl
       · unfold letheref03_turned_l3; dsimp only; rw [if_neg (by decide)]
     · rw [nb_byte _ hx, trn_set X _ hi]
   · unfold letheref03_turned_l2; dsimp only; rw [if_neg (by omega)]
theorem joined_ok {P : List (List Byte)} (hp : P.length < 9223372036854775807) (hl : P.flatten.length ≤ 140737488355328) : letheref03_Joined P P.flatten := by
 refine ⟨_, ?_, rfl⟩
 have key : Iter (letheref03_Joined_l0 P) ((P.take 0).flatten, 0) (P.take P.length).flatten :=
   Iter.count (fun i => ((P.take i).flatten, i)) P.length (fun i hi => by
     unfold letheref03_Joined_l0; dsimp only
     have h1 := flatten_take hi
     have h2 := flatten_len P (i + 1)
     rw [h1, List.length_append] at h2
     rw [if_pos hi, h1]
     exact ⟨hi, by omega, by omega, rfl⟩) (by
     unfold letheref03_Joined_l0; dsimp only; rw [if_neg (by omega)])
 rw [List.take_length] at key
 exact key
theorem refmac_ok {K T : List Byte} (hk : K.length < 70368744177664) (ht : T.length < 1000000000) : letheref03_Mac K T (macL K T) := by
 have l1 := padK_length K 54#8
 have l2 := padK_length K 92#8
 have j1 := joined_ok (P := [padK K 54#8, T]) (by simp) (by simp only [List.flatten_cons, List.flatten_nil, List.append_nil, List.length_append]; omega)
 have j2 := joined_ok (P := [padK K 92#8, dl 32 (shaL (padK K 54#8 ++ T))]) (by simp) (by simp only [List.flatten_cons, List.flatten_nil, List.append_nil, List.length_append, dl_length]; omega)
 simp only [List.flatten_cons, List.flatten_nil, List.append_nil] at j1 j2
 exact ⟨_, turned_ok hk (.inl rfl), _, j1, _, refsum_ok (by rw [List.length_append]; omega), _, turned_ok hk (.inr rfl), _, j2, _, refsum_ok (by rw [List.length_append, dl_length]; omega), rfl⟩
theorem refexpand_ok {prk info : List Byte} {n : Nat} (hp : prk.length < 70368744177664) (hi : info.length < 1000000) (hn : n ≤ 8160) :
   letheref03_Expand prk info (n : Int) (.inr (expL prk info n, 0)) := by
 unfold letheref03_Expand
 rw [if_neg (by omega), if_neg (by omega)]
 refine ⟨expO prk info ((n + 31) / 32), ?_, by omega, by rw [expO_length]; omega, rfl⟩
 refine Iter.count (fun i => (expO prk info i, expT prk info i, i + 1)) ((n + 31) / 32) (fun i hi2 => ?_) ?_
 · unfold letheref03_Expand_l0; dsimp only
   have hl := expO_length prk info i
   have hl2 := expT_le prk info i
   rw [if_pos (by omega)]
   have j := joined_ok (P := [expT prk info i, info, [BitVec.ofNat 8 (i + 1)]]) (by simp) (by simp only [List.flatten_cons, List.flatten_nil, List.append_nil, List.length_append, List.length_singleton]; omega)
   simp only [List.flatten_cons, List.flatten_nil, List.append_nil] at j
   exact ⟨_, j, _, refmac_ok hp (by simp only [List.length_append, List.length_singleton]; omega), by omega, by omega, rfl⟩
 · unfold letheref03_Expand_l0; dsimp only
   have hl := expO_length prk info ((n + 31) / 32)
   rw [if_neg (by omega)]
theorem refderive_ok {salt key info : List Byte} {n : Nat} (hs : salt.length < 70368744177664) (hk : key.length < 1000000000) (hi : info.length < 1000000) (hn : n ≤ 8160) :
   letheref03_Derive salt key info (n : Int) (.inr (expL (dl 32 (macL salt key)) info n, 0)) :=
 ⟨_, ⟨_, refmac_ok hs hk, rfl⟩, .inr ⟨_, _, refexpand_ok (by rw [dl_length]; decide) hi hn, rfl⟩⟩
end Go.Proofs.YthjkmhdgenmnoaaDoor
namespace Go.Proofs.YthjkmhdgenmnoaaDoor
set_option linter.unusedSimpArgs false
set_option linter.unusedVariables false
set_option linter.unusedSectionVars false
open Go Go.LW
def xt (a : BitVec 8) : BitVec 8 := if a &&& 128#8 ≠ 0#8 then (a <<< 1) ^^^ 27#8 else a <<< 1
def mulFrom : Nat → BitVec 8 → BitVec 8 → BitVec 8 → BitVec 8
 | 0, _, _, out => out
 | n + 1, a, b, out => mulFrom n (xt a) (b >>> 1) (if b &&& 1#8 = 1#8 then out ^^^ a else out)
def mul8 (a b : BitVec 8) : BitVec 8 := mulFrom 8 a b 0#8
theorem mulFrom_zero : ∀ (n : Nat) (a out : BitVec 8), mulFrom n a 0#8 out = out
 | 0, _, _ => rfl
 | n + 1, a, out => by
   unfold mulFrom
   rw [if_neg (by decide), show (0#8 >>> 1 : BitVec 8) = 0#8 by decide]
   exact mulFrom_zero n _ _
theorem mul_iter : ∀ (n : Nat) (a b out : BitVec 8), b.toNat < 2 ^ n → Iter aes_Mul_l0 (a, b, out) (mulFrom n a b out) := by
 intro n
 induction n with
 | zero =>
   intro a b out hb
   obtain rfl : b = 0#8 := by
     apply BitVec.eq_of_toNat_eq; simp at hb ⊢; exact hb
   refine .done ?_
   simp [aes_Mul_l0, mulFrom]
 | succ n ih =>
   intro a b out hb
   by_cases h0 : b = 0#8
   · subst h0
     rw [mulFrom_zero]
     refine .done ?_
     simp [aes_Mul_l0]
   · refine .more (s' := (xt a, b >>> 1, if b &&& 1#8 = 1#8 then out ^^^ a else out)) ?_ ?_
     · unfold aes_Mul_l0 xt
       simp only [ne_eq, h0, not_false_eq_true, if_true]
       refine ⟨if b &&& 1#8 = 1#8 then out ^^^ a else out, ?_, ?_⟩
       · split <;> simp_all
       · split <;> simp_all
     · unfold mulFrom
       refine ih _ _ _ ?_
       rw [BitVec.toNat_ushiftRight, Nat.shiftRight_eq_div_pow]
       have : (2 : Nat) ^ (n + 1) = 2 ^ n * 2 := Nat.pow_succ ..
       omega
theorem mul_ok (a b : BitVec 8) : aes_Mul a b (mul8 a b) := ⟨_, mul_iter 8 a b 0#8 b.isLt, rfl⟩
def Add8 (F : BitVec 8 → BitVec 8) : Prop := ∀ x y, F (x ^^^ y) = F x ^^^ F y
theorem xlc {n : Nat} (a b c : BitVec n) : a ^^^ (b ^^^ c) = b ^^^ (a ^^^ c) := by rw [← BitVec.xor_assoc, BitVec.xor_comm a b, BitVec.xor_assoc]
theorem xsc {n : Nat} (a b : BitVec n) : a ^^^ (a ^^^ b) = b := by rw [← BitVec.xor_assoc, BitVec.xor_self, BitVec.zero_xor]
theorem Add8.zero {F : BitVec 8 → BitVec 8} (h : Add8 F) : F 0#8 = 0#8 := by
 have := h 0#8 0#8
 rw [show (0#8 ^^^ 0#8 : BitVec 8) = 0#8 by decide] at this
 have h2 : F 0#8 ^^^ F 0#8 = 0#8 := BitVec.xor_self
 rw [h2] at this; exact this
def bit8 (x : BitVec 8) (i : Nat) : BitVec 8 := if x.getLsbD i then 1#8 <<< i else 0#8
theorem bits8 : ∀ x : BitVec 8, x = bit8 x 0 ^^^ bit8 x 1 ^^^ bit8 x 2 ^^^ bit8 x 3 ^^^ bit8 x 4 ^^^ bit8 x 5 ^^^ bit8 x 6 ^^^ bit8 x 7 := by decide +kernel
theorem ext8 {F G : BitVec 8 → BitVec 8} (hF : Add8 F) (hG : Add8 G) (h : ∀ i, i < 8 → F (1#8 <<< i) = G (1#8 <<< i)) (x : BitVec 8) : F x = G x := by
 have hb : ∀ i, i < 8 → F (bit8 x i) = G (bit8 x i) := fun i hi => by
   unfold bit8; split
   · exact h i hi
   · rw [hF.zero, hG.zero]
 rw [bits8 x]
 simp only [hF _ _, hG _ _, hb 0 (by omega), hb 1 (by omega), hb 2 (by omega), hb 3 (by omega), hb 4 (by omega), hb 5 (by omega), hb 6 (by omega), hb 7 (by omega)]
theorem xt_add : Add8 xt := by
 intro x y
 have h1 : ∀ a : BitVec 8, xt a = (a <<< 1) ^^^ (if a.getLsbD 7 then 27#8 else 0#8) := by decide +kernel
 rw [h1, h1, h1, BitVec.shiftLeft_xor_distrib, BitVec.getLsbD_xor]
 generalize x <<< 1 = u
 generalize y <<< 1 = v
 cases x.getLsbD 7 <;> cases y.getLsbD 7 <;> simp [BitVec.xor_assoc, BitVec.xor_comm, xlc, xsc]
theorem mulFrom_out : ∀ (n : Nat) (a b out : BitVec 8), mulFrom n a b out = out ^^^ mulFrom n a b 0#8
 | 0, a, b, out => by simp [mulFrom]
 | n + 1, a, b, out => by
   unfold mulFrom
   rw [mulFrom_out n _ _ (if b &&& 1#8 = 1#8 then out ^^^ a else out), mulFrom_out n _ _ (if b &&& 1#8 = 1#8 then 0#8 ^^^ a else 0#8)]
   split <;> simp [BitVec.xor_assoc]
theorem mulFrom_addR : ∀ (n : Nat) (a b b' : BitVec 8), mulFrom n a (b ^^^ b') 0#8 = mulFrom n a b 0#8 ^^^ mulFrom n a b' 0#8
 | 0, _, _, _ => by simp [mulFrom]
 | n + 1, a, b, b' => by
   have h1 : ∀ b : BitVec 8, (b &&& 1#8 = 1#8) = (b.getLsbD 0 = true) := fun b => by
     rw [propext_iff]; revert b; decide +kernel
   unfold mulFrom
   rw [mulFrom_out n _ _ (if (b ^^^ b') &&& 1#8 = 1#8 then 0#8 ^^^ a else 0#8), mulFrom_out n _ _ (if b &&& 1#8 = 1#8 then 0#8 ^^^ a else 0#8), mulFrom_out n _ _ (if b' &&& 1#8 = 1#8 then 0#8 ^^^ a else 0#8), BitVec.ushiftRight_xor_distrib, mulFrom_addR n]
   simp only [h1, BitVec.getLsbD_xor]
   generalize mulFrom n (xt a) (b >>> 1) 0#8 = u
   generalize mulFrom n (xt a) (b' >>> 1) 0#8 = v
   cases b.getLsbD 0 <;> cases b'.getLsbD 0 <;> simp [BitVec.xor_assoc, xlc, xsc, BitVec.xor_comm]
theorem mul_addR (a : BitVec 8) : Add8 fun b => mul8 a b := fun x y => mulFrom_addR 8 a x y
end Go.Proofs.YthjkmhdgenmnoaaDoor
namespace Go.Proofs.YthjkmhdgenmnoaaDoor
set_option linter.unusedSimpArgs false
set_option linter.unusedVariables false
set_option linter.unusedSectionVars false
open Go Go.LW
def nth8 (l : List Nat) (i : Nat) : BitVec 8 := BitVec.ofNat 8 (l.getD i 0)
def powL : List Nat := [1, 3, 5, 15, 17, 51, 85, 255, 26, 46, 114, 150, 161, 248, 19, 53, 95, 225, 56, 72, 216, 115, 149, 164, 247, 2, 6, 10, 30, 34, 102, 170, 229, 52, 92, 228, 55, 89, 235, 38, 106, 190, 217, 112, 144, 171, 230, 49, 83, 245, 4, 12, 20, 60, 68, 204, 79, 209, 104, 184, 211, 110, 178, 205, 76, 212, 103, 169, 224, 59, 77, 215, 98, 166, 241, 8, 24, 40, 120, 136, 131, 158, 185, 208, 107, 189, 220, 127, 129, 152, 179, 206, 73, 219, 118, 154, 181, 196, 87, 249, 16, 48, 80, 240, 11, 29, 39, 105, 187, 214, 97, 163, 254, 25, 43, 125, 135, 146, 173, 236, 47, 113, 147, 174, 233, 32, 96, 160, 251, 22, 58, 78, 210, 109, 183, 194, 93, 231, 50, 86, 250, 21, 63, 65, 195, 94, 226, 61, 71, 201, 64, 192, 91, 237, 44, 116, 156, 191, 218, 117, 159, 186, 213, 100, 172, 239, 42, 126, 130, 157, 188, 223, 122, 142, 137, 128, 155, 182, 193, 88, 232, 35, 101, 175, 234, 37, 111, 177, 200, 67, 197, 84, 252, 31, 33, 99, 165, 244, 7, 9, 27, 45, 119, 153, 176, 203, 70, 202, 69, 207, 74, 222, 121, 139, 134, 145, 168, 227, 62, 66, 198, 81, 243, 14, 18, 54, 90, 238, 41, 123, 141, 140, 143, 138, 133, 148, 167, 242, 13, 23, 57, 75, 221, 124, 132, 151, 162, 253, 28, 36, 108, 180, 199, 82, 246, 1]
def opwL : List Nat := [1, 246, 82, 199, 180, 108, 36, 28, 253, 162, 151, 132, 124, 221, 75, 57, 23, 13, 242, 167, 148, 133, 138, 143, 140, 141, 123, 41, 238, 90, 54, 18, 14, 243, 81, 198, 66, 62, 227, 168, 145, 134, 139, 121, 222, 74, 207, 69, 202, 70, 203, 176, 153, 119, 45, 27, 9, 7, 244, 165, 99, 33, 31, 252, 84, 197, 67, 200, 177, 111, 37, 234, 175, 101, 35, 232, 88, 193, 182, 155, 128, 137, 142, 122, 223, 188, 157, 130, 126, 42, 239, 172, 100, 213, 186, 159, 117, 218, 191, 156, 116, 44, 237, 91, 192, 64, 201, 71, 61, 226, 94, 195, 65, 63, 21, 250, 86, 50, 231, 93, 194, 183, 109, 210, 78, 58, 22, 251, 160, 96, 32, 233, 174, 147, 113, 47, 236, 173, 146, 135, 125, 43, 25, 254, 163, 97, 214, 187, 105, 39, 29, 11, 240, 80, 48, 16, 249, 87, 196, 181, 154, 118, 219, 73, 206, 179, 152, 129, 127, 220, 189, 107, 208, 185, 158, 131, 136, 120, 40, 24, 8, 241, 166, 98, 215, 77, 59, 224, 169, 103, 212, 76, 205, 178, 110, 211, 184, 104, 209, 79, 204, 68, 60, 20, 12, 4, 245, 83, 49, 230, 171, 144, 112, 217, 190, 106, 38, 235, 89, 55, 228, 92, 52, 229, 170, 102, 34, 30, 10, 6, 2, 247, 164, 149, 115, 216, 72, 56, 225, 95, 53, 19, 248, 161, 150, 114, 46, 26, 255, 85, 51, 17, 15, 5, 3, 1]
def boxL : List Nat := [99, 124, 119, 123, 242, 107, 111, 197, 48, 1, 103, 43, 254, 215, 171, 118, 202, 130, 201, 125, 250, 89, 71, 240, 173, 212, 162, 175, 156, 164, 114, 192, 183, 253, 147, 38, 54, 63, 247, 204, 52, 165, 229, 241, 113, 216, 49, 21, 4, 199, 35, 195, 24, 150, 5, 154, 7, 18, 128, 226, 235, 39, 178, 117, 9, 131, 44, 26, 27, 110, 90, 160, 82, 59, 214, 179, 41, 227, 47, 132, 83, 209, 0, 237, 32, 252, 177, 91, 106, 203, 190, 57, 74, 76, 88, 207, 208, 239, 170, 251, 67, 77, 51, 133, 69, 249, 2, 127, 80, 60, 159, 168, 81, 163, 64, 143, 146, 157, 56, 245, 188, 182, 218, 33, 16, 255, 243, 210, 205, 12, 19, 236, 95, 151, 68, 23, 196, 167, 126, 61, 100, 93, 25, 115, 96, 129, 79, 220, 34, 42, 144, 136, 70, 238, 184, 20, 222, 94, 11, 219, 224, 50, 58, 10, 73, 6, 36, 92, 194, 211, 172, 98, 145, 149, 228, 121, 231, 200, 55, 109, 141, 213, 78, 169, 108, 86, 244, 234, 101, 122, 174, 8, 186, 120, 37, 46, 28, 166, 180, 198, 232, 221, 116, 31, 75, 189, 139, 138, 112, 62, 181, 102, 72, 3, 246, 14, 97, 53, 87, 185, 134, 193, 29, 158, 225, 248, 152, 17, 105, 217, 142, 148, 155, 30, 135, 233, 206, 85, 40, 223, 140, 161, 137, 13, 191, 230, 66, 104, 65, 153, 45, 15, 176, 84, 187, 22]
def ibxL : List Nat := [82, 9, 106, 213, 48, 54, 165, 56, 191, 64, 163, 158, 129, 243, 215, 251, 124, 227, 57, 130, 155, 47, 255, 135, 52, 142, 67, 68, 196, 222, 233, 203, 84, 123, 148, 50, 166, 194, 35, 61, 238, 76, 149, 11, 66, 250, 195, 78, 8, 46, 161, 102, 40, 217, 36, 178, 118, 91, 162, 73, 109, 139, 209, 37, 114, 248, 246, 100, 134, 104, 152, 22, 212, 164, 92, 204, 93, 101, 182, 146, 108, 112, 72, 80, 253, 237, 185, 218, 94, 21, 70, 87, 167, 141, 157, 132, 144, 216, 171, 0, 140, 188, 211, 10, 247, 228, 88, 5, 184, 179, 69, 6, 208, 44, 30, 143, 202, 63, 15, 2, 193, 175, 189, 3, 1, 19, 138, 107, 58, 145, 17, 65, 79, 103, 220, 234, 151, 242, 207, 206, 240, 180, 230, 115, 150, 172, 116, 34, 231, 173, 53, 133, 226, 249, 55, 232, 28, 117, 223, 110, 71, 241, 26, 113, 29, 41, 197, 137, 111, 183, 98, 14, 170, 24, 190, 27, 252, 86, 62, 75, 198, 210, 121, 32, 154, 219, 192, 254, 120, 205, 90, 244, 31, 221, 168, 51, 136, 7, 199, 49, 177, 18, 16, 89, 39, 128, 236, 95, 96, 81, 127, 169, 25, 181, 74, 13, 45, 229, 122, 159, 147, 201, 156, 239, 160, 224, 59, 77, 174, 42, 245, 176, 200, 235, 187, 60, 131, 83, 153, 97, 23, 43, 4, 126, 186, 119, 214, 38, 225, 105, 20, 99, 85, 33, 12, 125]
def logL : List Nat := [0, 0, 25, 1, 50, 2, 26, 198, 75, 199, 27, 104, 51, 238, 223, 3, 100, 4, 224, 14, 52, 141, 129, 239, 76, 113, 8, 200, 248, 105, 28, 193, 125, 194, 29, 181, 249, 185, 39, 106, 77, 228, 166, 114, 154, 201, 9, 120, 101, 47, 138, 5, 33, 15, 225, 36, 18, 240, 130, 69, 53, 147, 218, 142, 150, 143, 219, 189, 54, 208, 206, 148, 19, 92, 210, 241, 64, 70, 131, 56, 102, 221, 253, 48, 191, 6, 139, 98, 179, 37, 226, 152, 34, 136, 145, 16, 126, 110, 72, 195, 163, 182, 30, 66, 58, 107, 40, 84, 250, 133, 61, 186, 43, 121, 10, 21, 155, 159, 94, 202, 78, 212, 172, 229, 243, 115, 167, 87, 175, 88, 168, 80, 244, 234, 214, 116, 79, 174, 233, 213, 231, 230, 173, 232, 44, 215, 117, 122, 235, 22, 11, 245, 89, 203, 95, 176, 156, 169, 81, 160, 127, 12, 246, 111, 23, 196, 73, 236, 216, 67, 31, 45, 164, 118, 123, 183, 204, 187, 62, 90, 251, 96, 177, 134, 59, 82, 161, 108, 170, 85, 41, 157, 151, 178, 135, 144, 97, 190, 220, 252, 188, 149, 207, 205, 55, 63, 91, 209, 83, 57, 132, 60, 65, 162, 109, 71, 20, 42, 158, 93, 86, 242, 211, 171, 68, 17, 146, 217, 35, 32, 46, 137, 180, 124, 184, 38, 119, 153, 227, 165, 103, 74, 237, 222, 197, 49, 254, 24, 13, 99, 140, 128, 192, 247, 112, 7]
def sb (x : BitVec 8) : BitVec 8 := nth8 boxL x.toNat
def isb (x : BitVec 8) : BitVec 8 := nth8 ibxL x.toNat
def acc8 (v : BitVec 8) : Nat → BitVec 8
 | 0 => v
 | i + 1 => acc8 v i ^^^ ((v <<< (1 + i)) ||| (v >>> (8 - (1 + i))))
def aff (v : BitVec 8) : BitVec 8 := acc8 v 4 ^^^ 99#8
theorem fill1_ok (a v : BitVec 8) (box back two : Nat → BitVec 8) : aes_fill_1 a v box back two (upd box a.toNat (aff v), upd back (aff v).toNat a) := by
 refine ⟨acc8 v 4, ?_, rfl⟩
 refine Iter.count (fun i => (acc8 v i, 1 + i)) 4 (fun i hi => ?_) ?_
 · unfold aes_fill_1_l0
   simp only [show 1 + i ≤ 4 by omega, if_true]
   rfl
 · unfold aes_fill_1_l0
   simp only [show ¬ (1 + 4 ≤ 4) by omega, if_false]
def boxAt : Nat → Nat → BitVec 8
 | 0 => upd (fun _ => 0#8) (0#8).toNat (aff 0#8)
 | i + 1 => upd (boxAt i) (nth8 powL i).toNat (aff (nth8 opwL i))
def backAt : Nat → Nat → BitVec 8
 | 0 => upd (fun _ => 0#8) (aff 0#8).toNat 0#8
 | i + 1 => upd (backAt i) (aff (nth8 opwL i)).toNat (nth8 powL i)
def twoAt : Nat → Nat → BitVec 8
 | 0 => fun _ => 0#8
 | i + 1 => upd (twoAt i) i (mul8 (BitVec.ofNat 8 i) 2#8)
theorem pow_step : ∀ i, i < 255 → mul8 (nth8 powL i) 3#8 = nth8 powL (i + 1) := by decide +kernel
theorem opw_step : ∀ i, i < 255 → mul8 (nth8 opwL i) 246#8 = nth8 opwL (i + 1) := by decide +kernel
def boxF : Nat → BitVec 8 := boxAt 255
def backF : Nat → BitVec 8 := backAt 255
def twoF : Nat → BitVec 8 := twoAt 256
theorem fill_ok : aes_fill (boxF, backF, twoF) := by
 refine ⟨_, _, fill1_ok _ _ _ _ _, boxF, backF, ?_, twoF, ?_, rfl⟩
 · refine Iter.count (fun i => (nth8 powL i, nth8 opwL i, i, boxAt i, backAt i)) 255 (fun i hi => ?_) ?_
   · unfold aes_fill_l0
     simp only [hi, if_true]
     refine ⟨_, _, fill1_ok _ _ _ _ _, _, mul_ok _ _, _, mul_ok _ _, ?_⟩
     rw [pow_step i hi, opw_step i hi]
     rfl
   · unfold aes_fill_l0
     simp only [Nat.lt_irrefl, if_false]
     rfl
 · refine Iter.count (fun i => (i, twoAt i)) 256 (fun i hi => ?_) ?_
   · unfold aes_fill_l1
     simp only [hi, if_true]
     exact ⟨_, mul_ok _ _, rfl⟩
   · unfold aes_fill_l1
     simp only [Nat.lt_irrefl, if_false]
     rfl
theorem upd_all {α : Type} {T : Nat → α} {idx : Nat → Nat} {val : Nat → α} {f : Nat → Nat → α} {m : Nat} (hf : ∀ i, i < m → f (i + 1) = upd (f i) (idx i) (val i)) (hv : ∀ i, i < m → val i = T (idx i)) :
   ∀ i, i ≤ m → ∀ k, (f 0 k = T k ∨ ∃ j, j < i ∧ idx j = k) → f i k = T k := by
 intro i
 induction i with
 | zero =>
   intro _ k h
   rcases h with h | ⟨j, hj, _⟩
   · exact h
   · omega
 | succ i ih =>
   intro hi k h
   rw [hf i (by omega), upd_at]
   by_cases hk : k = idx i
   · rw [if_pos hk, hk]; exact hv i (by omega)
   · rw [if_neg hk]
     refine ih (by omega) k ?_
     rcases h with h | ⟨j, hj, hjk⟩
     · exact .inl h
     · refine .inr ⟨j, ?_, hjk⟩
       by_cases hji : j = i
       · subst hji; exact absurd hjk.symm hk
       · omega
theorem box_at (x : BitVec 8) : boxF x.toNat = sb x := by
 have h1 : ∀ i, i < 255 → aff (nth8 opwL i) = nth8 boxL (nth8 powL i).toNat := by decide +kernel
 have h2 : ∀ k, k < 256 → k = 0 ∨ (logL.getD k 0 < 255 ∧ (nth8 powL (logL.getD k 0)).toNat = k) := by decide +kernel
 refine upd_all (T := nth8 boxL) (f := boxAt) (idx := fun i => (nth8 powL i).toNat) (val := fun i => aff (nth8 opwL i)) (m := 255) (fun _ _ => rfl) h1 255 (Nat.le_refl _) _ ?_
 rcases h2 x.toNat x.isLt with h | ⟨h, h'⟩
 · rw [h]; exact .inl (by decide)
 · exact .inr ⟨_, h, h'⟩
theorem two_at (x : BitVec 8) : twoF x.toNat = xt x := by
 have h1 : ∀ x : BitVec 8, mul8 x 2#8 = xt x := by decide +kernel
 have h := upd_all (T := fun k => mul8 (BitVec.ofNat 8 k) 2#8) (f := twoAt) (idx := fun i => i) (val := fun i => mul8 (BitVec.ofNat 8 i) 2#8) (m := 256) (fun _ _ => rfl) (fun _ _ => rfl) 256 (Nat.le_refl _) x.toNat (.inr ⟨_, x.isLt, rfl⟩)
 rw [← h1]
 refine h.trans ?_
 rw [BitVec.ofNat_toNat, BitVec.setWidth_eq]
theorem sb_isb (x : BitVec 8) : sb (isb x) = x := by revert x; decide +kernel
theorem isb_sb (x : BitVec 8) : isb (sb x) = x := by revert x; decide +kernel
end Go.Proofs.YthjkmhdgenmnoaaDoor
namespace Go.Proofs.YthjkmhdgenmnoaaDoor
set_option linter.unusedSimpArgs false
set_option linter.unusedVariables false
set_option linter.unusedSectionVars false
open Go Go.LW
abbrev F8 := Nat → BitVec 8
def E16 (s s' : F8) : Prop := ∀ q, q < 16 → s q = s' q
theorem E16.rfl' {s : F8} : E16 s s := fun _ _ => rfl
theorem E16.symm {s t : F8} (h : E16 s t) : E16 t s := fun q hq => (h q hq).symm
theorem E16.trans {s t u : F8} (h : E16 s t) (h' : E16 t u) : E16 s u := fun q hq => (h q hq).trans (h' q hq)
def addAt (k : F8) (r : Nat) (s : F8) (n : Nat) : F8 := fun q => if q < n then s q ^^^ k (r * 16 + q) else s q
def addF (k : F8) (r : Nat) (s : F8) : F8 := addAt k r s 16
theorem add_ok (k a b c s : F8) (r : Nat) (hr : r < 15) : aes_Cipher_add k a b c s (r : Int) (addF k r s) := by
 refine ⟨⟨by omega, by omega⟩, addF k r s, ?_, rfl⟩
 refine Iter.count (fun i => (i, addAt k r s i)) 16 (fun i hi => ?_) ?_
 · unfold aes_Cipher_add_l0
   simp only [hi, if_true]
   congr 2
   funext q
   simp only [upd_at, addAt, Int.toNat_natCast]
   by_cases hq : q = i
   · subst hq; simp
   · rw [if_neg hq]
     by_cases h2 : q < i
     · rw [if_pos h2, if_pos (by omega)]
     · rw [if_neg h2, if_neg (by omega)]
 · unfold aes_Cipher_add_l0
   simp only [Nat.lt_irrefl, if_false]
   rfl
theorem addF_at (k : F8) (r : Nat) (s : F8) {q : Nat} (h : q < 16) : addF k r s q = s q ^^^ k (r * 16 + q) := if_pos h
theorem addF_E {k : F8} {r : Nat} {s t : F8} (h : E16 s t) : E16 (addF k r s) (addF k r t) := fun q hq => by rw [addF_at _ _ _ hq, addF_at _ _ _ hq, h q hq]
def colv (two : F8) (i : Nat) (w x y z : BitVec 8) : BitVec 8 :=
 match i with
 | 0 => (w ^^^ (((w ^^^ x) ^^^ y) ^^^ z)) ^^^ two (w ^^^ x).toNat
 | 1 => (x ^^^ (((w ^^^ x) ^^^ y) ^^^ z)) ^^^ two (x ^^^ y).toNat
 | 2 => (y ^^^ (((w ^^^ x) ^^^ y) ^^^ z)) ^^^ two (y ^^^ z).toNat
 | _ => (z ^^^ (((w ^^^ x) ^^^ y) ^^^ z)) ^^^ two (z ^^^ w).toNat
def mixAt (two s : F8) (n : Nat) : F8 := fun q => if q < 4 * n then colv two (q % 4) (s (4 * (q / 4))) (s (4 * (q / 4) + 1)) (s (4 * (q / 4) + 2)) (s (4 * (q / 4) + 3)) else s q
def mixF (two s : F8) : F8 := mixAt two s 4
theorem mix_ok (k a b two s : F8) : aes_Cipher_mix k a b two s (mixF two s) := by
 refine ⟨mixF two s, ?_, rfl⟩
 refine Iter.count (fun i => (4 * i, mixAt two s i)) 4 (fun i hi => ?_) ?_
 · unfold aes_Cipher_mix_l0
   simp only [show 4 * i < 16 by omega, if_true]
   refine ⟨by omega, by omega, by omega, by omega, by omega, by omega, ?_⟩
   have hs : ∀ j, mixAt two s i (4 * i + j) = s (4 * i + j) := fun j => if_neg (by omega)
   have hs0 : mixAt two s i (4 * i) = s (4 * i) := hs 0
   rw [hs0, hs 1, hs 2, hs 3]
   congr 2
   funext q
   simp only [upd_at]
   by_cases h3 : q = 4 * i + 3
   · subst h3
     rw [if_pos rfl]
     have e1 : (4 * i + 3) % 4 = 3 := by omega
     have e2 : (4 * i + 3) / 4 = i := by omega
     simp only [mixAt, e1, e2, show 4 * i + 3 < 4 * (i + 1) by omega, if_true, colv]
   · rw [if_neg h3]
     by_cases h2 : q = 4 * i + 2
     · subst h2
       rw [if_pos rfl]
       have e1 : (4 * i + 2) % 4 = 2 := by omega
       have e2 : (4 * i + 2) / 4 = i := by omega
       simp only [mixAt, e1, e2, show 4 * i + 2 < 4 * (i + 1) by omega, if_true, colv]
     · rw [if_neg h2]
       by_cases h1 : q = 4 * i + 1
       · subst h1
         rw [if_pos rfl]
         have e1 : (4 * i + 1) % 4 = 1 := by omega
         have e2 : (4 * i + 1) / 4 = i := by omega
         simp only [mixAt, e1, e2, show 4 * i + 1 < 4 * (i + 1) by omega, if_true, colv]
       · rw [if_neg h1]
         by_cases h0 : q = 4 * i
         · subst h0
           rw [if_pos rfl]
           have e1 : (4 * i) % 4 = 0 := by omega
           have e2 : (4 * i) / 4 = i := by omega
           simp only [mixAt, e1, e2, show 4 * i < 4 * (i + 1) by omega, if_true, colv]
         · rw [if_neg h0]
           unfold mixAt
           by_cases hq : q < 4 * i
           · rw [if_pos hq, if_pos (by omega)]
           · rw [if_neg hq, if_neg (by omega)]
 · unfold aes_Cipher_mix_l0
   simp only [show ¬ (4 * 4 < 16) by omega, if_false]
   rfl
theorem mixF_at (two s : F8) {c i : Nat} (hc : c < 4) (hi : i < 4) : mixF two s (4 * c + i) = colv two i (s (4 * c)) (s (4 * c + 1)) (s (4 * c + 2)) (s (4 * c + 3)) := by
 unfold mixF mixAt
 rw [if_pos (by omega), show (4 * c + i) % 4 = i by omega, show (4 * c + i) / 4 = c by omega]
theorem E16.cols {s t : F8} (h : ∀ c i, c < 4 → i < 4 → s (4 * c + i) = t (4 * c + i)) : E16 s t := fun q hq => by
 have := h (q / 4) (q % 4) (by omega) (by omega)
 rwa [show 4 * (q / 4) + q % 4 = q by omega] at this
theorem mixF_E {two : F8} {s t : F8} (h : E16 s t) : E16 (mixF two s) (mixF two t) := E16.cols fun c i hc hi => by
 rw [mixF_at _ _ hc hi, mixF_at _ _ hc hi, h (4 * c) (by omega), h (4 * c + 1) (by omega), h (4 * c + 2) (by omega), h (4 * c + 3) (by omega)]
def colT (i : Nat) (w x y z : BitVec 8) : BitVec 8 := colv twoF i w x y z
def m8 (i : Nat) (v : BitVec 8 × BitVec 8 × BitVec 8 × BitVec 8) : BitVec 8 := colT i v.1 v.2.1 v.2.2.1 v.2.2.2
def colX (i : Nat) (w x y z : BitVec 8) : BitVec 8 :=
 match i with
 | 0 => (w ^^^ (((w ^^^ x) ^^^ y) ^^^ z)) ^^^ xt (w ^^^ x)
 | 1 => (x ^^^ (((w ^^^ x) ^^^ y) ^^^ z)) ^^^ xt (x ^^^ y)
 | 2 => (y ^^^ (((w ^^^ x) ^^^ y) ^^^ z)) ^^^ xt (y ^^^ z)
 | _ => (z ^^^ (((w ^^^ x) ^^^ y) ^^^ z)) ^^^ xt (z ^^^ w)
theorem colT_X (i : Nat) (w x y z : BitVec 8) : colT i w x y z = colX i w x y z := by
 unfold colT colv colX
 split <;> simp only [two_at]
def shAt (box s : F8) (n : Nat) : F8 := fun q => if q < n then box (s ((q + 4 * (q % 4)) % 16)).toNat else 0#8
def shF (box s : F8) : F8 := shAt box s 16
theorem sh_ok (box s : F8) : Iter (aes_Cipher_Encrypt_l1 box s) (0, fun _ => 0#8) (shF box s) := by
 have e0 : (fun _ => 0#8 : F8) = shAt box s 0 := by funext q; simp [shAt]
 rw [e0]
 refine Iter.count (fun i => (i, shAt box s i)) 16 (fun i hi => ?_) ?_
 · unfold aes_Cipher_Encrypt_l1
   simp only [hi, if_true]
   congr 2
   funext q
   simp only [upd_at, shAt]
   by_cases hq : q = i
   · subst hq; simp
   · rw [if_neg hq]
     by_cases h2 : q < i
     · rw [if_pos h2, if_pos (by omega)]
     · rw [if_neg h2, if_neg (by omega)]
 · unfold aes_Cipher_Encrypt_l1
   simp only [Nat.lt_irrefl, if_false]
   rfl
theorem shF_at (box s : F8) {q : Nat} (h : q < 16) : shF box s q = box (s ((q + 4 * (q % 4)) % 16)).toNat := if_pos h
theorem shF_E {box s t : F8} (h : E16 s t) : E16 (shF box s) (shF box t) := fun q hq => by rw [shF_at _ _ hq, shF_at _ _ hq, h _ (Nat.mod_lt _ (by omega))]
def encAt (k box two s : F8) : Nat → F8
 | 0 => addF k 0 s
 | i + 1 => addF k (i + 1) (if i + 1 < 14 then mixF two (shF box (encAt k box two s i)) else shF box (encAt k box two s i))
def encF (k box two s : F8) : F8 := encAt k box two s 14
theorem enc_ok (k box back two s : F8) : aes_Cipher_Encrypt k box back two s (encF k box two s) := by
 refine ⟨_, add_ok k box back two s 0 (by omega), encF k box two s, ?_, rfl⟩
 refine Iter.count (fun i => (1 + i, encAt k box two s i)) 14 (fun i hi => ?_) ?_
 · unfold aes_Cipher_Encrypt_l0
   simp only [show 1 + i ≤ 14 by omega, if_true]
   refine ⟨_, sh_ok _ _, if i + 1 < 14 then mixF two (shF box (encAt k box two s i)) else shF box (encAt k box two s i), ?_, _, add_ok _ _ _ _ _ (1 + i) (by omega), ?_⟩
   · rw [Nat.add_comm 1 i]
     by_cases h : i + 1 < 14
     · rw [if_pos h, if_pos h]; exact ⟨_, mix_ok _ _ _ _ _, rfl⟩
     · rw [if_neg h, if_neg h]
   · rw [Nat.add_comm 1 i]; rw [show 1 + (i + 1) = i + 1 + 1 by omega]; rfl
 · unfold aes_Cipher_Encrypt_l0
   simp only [show ¬ (1 + 14 ≤ 14) by omega, if_false]
   rfl
end Go.Proofs.YthjkmhdgenmnoaaDoor
namespace Go.Proofs.YthjkmhdgenmnoaaDoor
set_option linter.unusedSimpArgs false
set_option linter.unusedVariables false
set_option linter.unusedSectionVars false
open Go Go.LW
def innerAt (m g : F8) (t : Nat) : Nat → F8
 | 0 => m
 | k + 1 => upd (innerAt m g t k) (t * 4 + k) ((innerAt m g t k ((t - 8) * 4 + k)) ^^^ g k)
def gW (box : F8) (pw : BitVec 8) (t : Nat) (m : F8) : F8 :=
 if t % 8 = 0 then lit [box ((fun q => m ((t - 1) * 4 + q)) 1).toNat ^^^ pw, box ((fun q => m ((t - 1) * 4 + q)) 2).toNat, box ((fun q => m ((t - 1) * 4 + q)) 3).toNat, box ((fun q => m ((t - 1) * 4 + q)) 0).toNat]
 else if t % 8 = 4 then lit [box ((fun q => m ((t - 1) * 4 + q)) 0).toNat, box ((fun q => m ((t - 1) * 4 + q)) 1).toNat, box ((fun q => m ((t - 1) * 4 + q)) 2).toNat, box ((fun q => m ((t - 1) * 4 + q)) 3).toNat]
 else fun q => m ((t - 1) * 4 + q)
def pwW (pw : BitVec 8) (t : Nat) : BitVec 8 := if t % 8 = 0 then mul8 pw 2#8 else pw
def exAt (box : F8) (key : List Byte) : Nat → BitVec 8 × F8
 | 0 => (1#8, fun _ => 0#8)
 | t + 1 => if t < 8 then ((exAt box key t).1, spl (exAt box key t).2 (t * 4) (min (seg key (4 * t) key.length).length 4) (lit (seg key (4 * t) key.length)))
   else (pwW (exAt box key t).1 t, innerAt (exAt box key t).2 (gW box (exAt box key t).1 t (exAt box key t).2) t 4)
def kAt (m k0 : F8) (i : Nat) : F8 := fun q => if q < 4 * i then m q else k0 q
def expF (box : F8) (key : List Byte) (k0 : F8) : F8 := kAt (exAt box key 60).2 k0 60
theorem exp_ok (k0 box back two : F8) {key : List Byte} (hk : key.length = 32) : aes_Cipher_expand k0 box back two key (expF box key k0) := by
 refine ⟨(exAt box key 60).2, ?_, expF box key k0, ?_, rfl⟩
 · refine Iter.count (fun t => ((exAt box key t).1, t, (exAt box key t).2)) 60 (fun t ht => ?_) ?_
   · unfold aes_Cipher_expand_l0
     simp only [ht, if_true]
     by_cases h8 : t < 8
     · rw [if_pos h8]
       refine ⟨⟨by omega, Nat.le_refl _⟩, ?_⟩
       simp only [exAt, h8, if_true]
     · rw [if_neg h8]
       refine ⟨pwW (exAt box key t).1 t, gW box (exAt box key t).1 t (exAt box key t).2, ?_, innerAt (exAt box key t).2 (gW box (exAt box key t).1 t (exAt box key t).2) t 4, ?_, ?_⟩
       · by_cases h0 : t % 8 = 0
         · rw [if_pos h0]
           exact ⟨_, mul_ok _ _, by simp only [pwW, h0, if_true], by simp only [gW, h0, if_true]⟩
         · rw [if_neg h0]
           by_cases h4 : t % 8 = 4
           · rw [if_pos h4]; exact ⟨by simp only [pwW, h0, if_false], by unfold gW; rw [if_neg h0, if_pos h4]⟩
           · rw [if_neg h4]; exact ⟨by simp only [pwW, h0, if_false], by unfold gW; rw [if_neg h0, if_neg h4]⟩
       · refine Iter.count (fun k => (k, innerAt (exAt box key t).2 (gW box (exAt box key t).1 t (exAt box key t).2) t k)) 4 (fun k hk => ?_) ?_
         · unfold aes_Cipher_expand_l1
           simp only [hk, if_true]
           rfl
         · unfold aes_Cipher_expand_l1
           simp only [Nat.lt_irrefl, if_false]
       · simp only [exAt, h8, if_false]
   · unfold aes_Cipher_expand_l0
     simp only [Nat.lt_irrefl, if_false]
 · have e0 : kAt (exAt box key 60).2 k0 0 = k0 := by funext q; simp [kAt]
   rw [show (0, k0) = (0, kAt (exAt box key 60).2 k0 0) by rw [e0]]
   unfold expF
   generalize (exAt box key 60).2 = m
   refine Iter.count (fun i => (i, kAt m k0 i)) 60 (fun i hi => ?_) ?_
   · unfold aes_Cipher_expand_l2
     simp only [hi, if_true]
     refine ⟨⟨by omega, by omega, by omega⟩, ?_⟩
     congr 2
     funext q
     have e1 : i / 4 * 16 + 4 * (i % 4) = 4 * i := by omega
     have e2 : min 4 (16 - 4 * (i % 4)) = 4 := by omega
     rw [e1, e2]
     unfold spl kAt
     by_cases h : 4 * i ≤ q ∧ q < 4 * i + 4
     · rw [if_pos h, if_pos (by omega), lit_dl _ (by omega)]
       congr 1; omega
     · rw [if_neg h]
       by_cases h2 : q < 4 * i
       · rw [if_pos h2, if_pos (by omega)]
       · rw [if_neg h2, if_neg (by omega)]
   · unfold aes_Cipher_expand_l2
     simp only [Nat.lt_irrefl, if_false]
def keyF (key : List Byte) : F8 := expF boxF key (fun _ => 0#8)
theorem new_ok {key : List Byte} (hk : key.length = 32) : aes_New key (.inr (keyF key, boxF, backF, twoF, 0)) := by
 unfold aes_New
 rw [if_neg (by omega)]
 exact ⟨_, _, _, fill_ok, _, exp_ok _ _ _ _ hk, rfl⟩
def nxAt (s : F8) (n : BitVec 64) : Nat → BitVec 64 × BitVec 64 × F8
 | 0 => (n, 0#64, s)
 | i + 1 => ((nxAt s n i).1 >>> 8, ((((nxAt s n i).2.2 (15 - i)).setWidth 64 + ((nxAt s n i).1 &&& 255#64)) + (nxAt s n i).2.1) >>> 8,
     upd (nxAt s n i).2.2 (15 - i) (((((nxAt s n i).2.2 (15 - i)).setWidth 64 + ((nxAt s n i).1 &&& 255#64)) + (nxAt s n i).2.1).setWidth 8))
def nextF (s : F8) (n : BitVec 64) : F8 := (nxAt s n 16).2.2
theorem next_ok (s : F8) (n : BitVec 64) : aes_Next s n (nextF s n) := by
 refine ⟨_, ?_, rfl⟩
 refine Iter.count (fun i => ((nxAt s n i).1, (nxAt s n i).2.1, (15 : Int) - i, (nxAt s n i).2.2)) 16 (fun i hi => ?_) ?_
 · unfold aes_Next_l0
   have e1 : ((15 : Int) - i).toNat = 15 - i := by omega
   dsimp only
   rw [if_pos (show (0 : Int) ≤ 15 - (i : Int) by omega), e1]
   refine ⟨⟨by omega, by omega⟩, ⟨by omega, by omega⟩, ⟨by omega, by omega⟩, ?_⟩
   congr 4
   omega
 · unfold aes_Next_l0
   simp only [show ¬ ((0 : Int) ≤ 15 - ((16 : Nat) : Int)) by omega, if_false]
   rfl
def inAt (out : List Byte) (a : Nat) (x : F8) : Nat → List Byte
 | 0 => out
 | t + 1 => (inAt out a x t).set (a + t) (lit (inAt out a x t) (a + t) ^^^ x t)
theorem inAt_length (out : List Byte) (a : Nat) (x : F8) : ∀ t, (inAt out a x t).length = out.length
 | 0 => rfl
 | t + 1 => by unfold inAt; rw [List.length_set]; exact inAt_length out a x t
def stAt (k box two first : F8) (text : List Byte) : Nat → List Byte × F8
 | 0 => (text, first)
 | i + 1 => (inAt (stAt k box two first text i).1 (16 * i) (encF k box two (stAt k box two first text i).2) (min 16 (text.length - 16 * i)), nextF (stAt k box two first text i).2 1#64)
def strF (k box two first : F8) (text : List Byte) : List Byte := (stAt k box two first text ((text.length + 15) / 16)).1
theorem str_ok (k box back two first : F8) {text : List Byte} (hl : text.length ≤ 140737488355328) : aes_Cipher_Stream k box back two first text (strF k box two first text) := by
 refine ⟨by omega, _, ?_, rfl⟩
 simp only [List.nil_append]
 refine Iter.count (fun i => ((stAt k box two first text i).1, 16 * i, (stAt k box two first text i).2)) ((text.length + 15) / 16) (fun i hi => ?_) ?_
 · unfold aes_Cipher_Stream_l0
   simp only [List.nil_append]
   rw [if_pos (by omega)]
   refine ⟨_, enc_ok _ _ _ _ _, by omega, inAt (stAt k box two first text i).1 (16 * i) (encF k box two (stAt k box two first text i).2) (min 16 (text.length - 16 * i)), ?_, _, next_ok _ _, by omega, rfl⟩
   refine Iter.count (fun t => (inAt (stAt k box two first text i).1 (16 * i) (encF k box two (stAt k box two first text i).2) t, t)) (min 16 (text.length - 16 * i)) (fun t ht => ?_) ?_
   · unfold aes_Cipher_Stream_l1
     simp only [List.nil_append]
     rw [if_pos (by omega)]
     exact ⟨by omega, by omega, by omega, rfl⟩
   · unfold aes_Cipher_Stream_l1
     simp only [List.nil_append]
     rw [if_neg (by omega)]
     trivial
 · unfold aes_Cipher_Stream_l0
   simp only [List.nil_append]
   rw [if_neg (by omega)]
   rfl
end Go.Proofs.YthjkmhdgenmnoaaDoor
namespace Go.Proofs.YthjkmhdgenmnoaaDoor
set_option linter.unusedSimpArgs false
set_option linter.unusedVariables false
set_option linter.unusedSectionVars false
open Go Go.LW
def ctr (first : F8) : Nat → F8
 | 0 => first
 | i + 1 => nextF (ctr first i) 1#64
theorem stAt_ctr (k box two first : F8) (text : List Byte) : ∀ i, (stAt k box two first text i).2 = ctr first i
 | 0 => rfl
 | i + 1 => by unfold stAt ctr; rw [stAt_ctr k box two first text i]
theorem lit_set {X : List Byte} {i q : Nat} {v : Byte} (h : i < X.length) : lit (X.set i v) q = if q = i then v else lit X q := by
 unfold lit
 rw [List.getD_eq_getElem?_getD, List.getD_eq_getElem?_getD]
 by_cases hq : q = i
 · subst hq; rw [if_pos rfl, List.getElem?_set_self h]; rfl
 · rw [if_neg hq, List.getElem?_set_ne (Ne.symm hq)]
theorem inAt_at {out : List Byte} {a : Nat} {x : F8} : ∀ t, a + t ≤ out.length → ∀ q, lit (inAt out a x t) q = if a ≤ q ∧ q < a + t then lit out q ^^^ x (q - a) else lit out q
 | 0, _, q => by rw [if_neg (by omega)]; rfl
 | t + 1, h, q => by
   unfold inAt
   rw [lit_set (by rw [inAt_length]; omega), inAt_at t (by omega), inAt_at t (by omega)]
   by_cases hq : q = a + t
   · subst hq
     rw [if_pos rfl, if_neg (by omega), if_pos (by omega), Nat.add_sub_cancel_left]
   · rw [if_neg hq]
     by_cases h2 : a ≤ q ∧ q < a + t
     · rw [if_pos h2, if_pos (by omega)]
     · rw [if_neg h2, if_neg (by omega)]
theorem stAt_length (k box two first : F8) (text : List Byte) : ∀ i, (stAt k box two first text i).1.length = text.length
 | 0 => rfl
 | i + 1 => by unfold stAt; rw [inAt_length, stAt_length k box two first text i]
theorem stAt_at (k box two first : F8) (text : List Byte) : ∀ i, 16 * i < text.length + 16 → ∀ q, q < text.length → lit (stAt k box two first text i).1 q = if q < 16 * i then lit text q ^^^ encF k box two (ctr first (q / 16)) (q % 16) else lit text q
 | 0, _, q, _ => rfl
 | i + 1, h, q, hq => by
   unfold stAt
   rw [inAt_at _ (by rw [stAt_length]; omega), stAt_ctr, stAt_at k box two first text i (by omega) q hq]
   by_cases h1 : q < 16 * i
   · rw [if_neg (by omega), if_pos h1, if_pos (by omega)]
   · by_cases h2 : q < 16 * (i + 1)
     · rw [if_pos (by omega), if_neg h1, if_pos h2, show q / 16 = i by omega, show q - 16 * i = q % 16 by omega]
     · rw [if_neg (by omega), if_neg h1, if_neg h2]
theorem strF_length (k box two first : F8) (text : List Byte) : (strF k box two first text).length = text.length := stAt_length _ _ _ _ _ _
theorem strF_at (k box two first : F8) (text : List Byte) {q : Nat} (hq : q < text.length) : lit (strF k box two first text) q = lit text q ^^^ encF k box two (ctr first (q / 16)) (q % 16) := by
 unfold strF
 rw [stAt_at k box two first text _ (by omega) q hq, if_pos (by omega)]
theorem list_ext {X Y : List Byte} (hl : X.length = Y.length) (h : ∀ q, q < X.length → lit X q = lit Y q) : X = Y := by
 rw [← lit_of X, ← lit_of Y, ← hl]
 exact List.map_congr_left fun q hq => h q (List.mem_range.1 hq)
theorem strF_twice (k box two first : F8) (text : List Byte) : strF k box two first (strF k box two first text) = text :=
 list_ext (by rw [strF_length, strF_length]) fun q hq => by
   rw [strF_length, strF_length] at hq
   rw [strF_at _ _ _ _ _ (by rw [strF_length]; exact hq), strF_at _ _ _ _ _ hq, BitVec.xor_assoc, BitVec.xor_self, BitVec.xor_zero]
end Go.Proofs.YthjkmhdgenmnoaaDoor
namespace Go.Proofs.YthjkmhdgenmnoaaDoor
set_option linter.unusedSimpArgs false
set_option linter.unusedVariables false
set_option linter.unusedSectionVars false
open Go Go.LW
theorem join_ok (a b : List Byte) (ha : a.length ≤ 1000000) (hb : b.length ≤ 1000000) : wire_Join [a, b] (a ++ b) := by
 refine ⟨a.length + b.length, ?_, by omega, a ++ b, ?_, rfl⟩
 · refine .more (s' := (a.length, 1)) ?_ (.more (s' := (a.length + b.length, 2)) ?_ (.done ?_))
   · unfold wire_Join_l0; dsimp only
     rw [if_pos (by simp)]
     exact ⟨by simp, by show 0 + a.length < _; omega, by omega, by show Sum.inl (a.length, 1) = Sum.inl (0 + a.length, 0 + 1); rw [Nat.zero_add]⟩
   · unfold wire_Join_l0; dsimp only
     rw [if_pos (by simp)]
     exact ⟨by simp, by show a.length + b.length < _; omega, by omega, rfl⟩
   · unfold wire_Join_l0; dsimp only
     rw [if_neg (by simp)]
 · refine .more (s' := (a, 1)) ?_ (.more (s' := (a ++ b, 2)) ?_ (.done ?_))
   · unfold wire_Join_l1; dsimp only
     rw [if_pos (by simp)]
     exact ⟨by simp, by show 0 + a.length ≤ _; omega, by omega, rfl⟩
   · unfold wire_Join_l1; dsimp only
     rw [if_pos (by simp)]
     exact ⟨by simp, by show a.length + b.length ≤ _; omega, by omega, rfl⟩
   · unfold wire_Join_l1; dsimp only
     rw [if_neg (by simp)]
def orAt (a b : List Byte) : Nat → Byte
 | 0 => 0#8
 | i + 1 => orAt a b i ||| (lit a i ^^^ lit b i)
theorem orAt_zero (a b : List Byte) : ∀ n, orAt a b n = 0#8 ↔ ∀ q, q < n → lit a q = lit b q
 | 0 => ⟨fun _ _ h => absurd h (Nat.not_lt_zero _), fun _ => rfl⟩
 | n + 1 => by
   have h8 : ∀ x y z : Byte, x ||| (y ^^^ z) = 0#8 ↔ x = 0#8 ∧ y = z := fun x y z => by
     rw [BitVec.or_eq_zero_iff, BitVec.xor_eq_zero_iff]
   show orAt a b n ||| (lit a n ^^^ lit b n) = 0#8 ↔ _
   rw [h8, orAt_zero a b n]
   refine ⟨fun ⟨h1, h2⟩ q hq => ?_, fun h => ⟨fun q hq => h q (by omega), h n (by omega)⟩⟩
   by_cases h : q = n
   · rw [h]; exact h2
   · exact h1 q (by omega)
theorem same_ok (a b : List Byte) (ha : a.length ≤ 1000000) : wire_Same a b (decide (a = b)) := by
 unfold wire_Same
 by_cases hl : a.length = b.length
 · rw [if_neg (by omega)]
   refine ⟨orAt a b a.length, Iter.count (fun i => (orAt a b i, i)) a.length (fun i hi => ?_) ?_, ?_⟩
   · unfold wire_Same_l0; dsimp only
     rw [if_pos hi]
     exact ⟨hi, by omega, by omega, rfl⟩
   · unfold wire_Same_l0; dsimp only
     rw [if_neg (by omega)]
   · refine decide_eq_decide.2 ((orAt_zero a b a.length).trans ⟨fun h => lext hl h, fun h q _ => by rw [h]⟩).symm
 · rw [if_pos hl]
   exact decide_eq_false fun h => hl (by rw [h])
def sealName : List Byte := dl 10 (lit ([108#8, 101#8, 116#8, 104#8, 101#8, 32#8, 115#8, 101#8, 97#8, 108#8] : List Byte))
def skey (key : Nat → Byte) : List Byte := expL (dl 32 (macL (List.replicate 32 0#8) (dl 32 key))) sealName 80
theorem skey_length (key : Nat → Byte) : (skey key).length = 80 := expL_length _ _ _
theorem skey_ok (key : Nat → Byte) : kdf_Derive (List.replicate 32 0#8) (dl 32 key) sealName 80 (skey key, 0) :=
 derive_ok (n := 80) (by rw [List.length_replicate]; decide) (by rw [dl_length]; decide) (by unfold sealName; rw [dl_length]; decide) (by omega)
def k1F (key : Nat → Byte) : Nat → Byte := keyF (seg (skey key) 0 32)
def k2F (key : Nat → Byte) : List Byte := seg (skey key) 32 64
def ivF (key : Nat → Byte) : Nat → Byte := lit (seg (skey key) 64 80)
theorem k2F_length (key : Nat → Byte) : (k2F key).length = 32 := by unfold k2F; rw [seg_length (by rw [skey_length]; omega)]
theorem keys_ok (key : Nat → Byte) : seal_keys key (.inr (.inr (k1F key, boxF, backF, twoF, k2F key, ivF key, 0))) := by
 have hl := skey_length key
 refine ⟨0, skey key, ⟨skey key, 0, skey_ok key, rfl, rfl⟩, ?_⟩
 rw [if_neg (by omega)]
 refine ⟨by omega, .inr ⟨k1F key, boxF, backF, twoF, 0, new_ok (by rw [seg_length (by omega)]), ?_⟩⟩
 rw [if_neg (by omega)]
 refine ⟨by omega, by omega, by omega, ?_⟩
 unfold ivF k2F
 rw [hl]
def len8 (n i : Nat) : Byte := ((BitVec.ofNat 64 n) >>> (56 - 8 * i)).setWidth 8
def len8L (n : Nat) : List Byte := (List.range 8).map (len8 n)
def lenAt (n t : Nat) : List Byte := (List.range 8).map fun i => if i < t then len8 n i else 0#8
theorem lenAt_length (n t : Nat) : (lenAt n t).length = 8 := by unfold lenAt; rw [List.length_map, List.length_range]
theorem lenAt_at (n t : Nat) {q : Nat} (h : q < 8) : lit (lenAt n t) q = if q < t then len8 n q else 0#8 := lit_range (n := 8) (fun i => if i < t then len8 n i else 0#8) q h
theorem lenAt_succ (n : Nat) {t : Nat} (h : t < 8) : (lenAt n t).set t (len8 n t) = lenAt n (t + 1) := by
 refine lext (by rw [List.length_set, lenAt_length, lenAt_length]) fun q hq => ?_
 rw [List.length_set, lenAt_length] at hq
 rw [lit_set (by rw [lenAt_length]; exact h), lenAt_at _ _ hq, lenAt_at _ _ hq]
 by_cases e : q = t
 · subst e; rw [if_pos rfl, if_pos (by omega)]
 · rw [if_neg e]
   by_cases h2 : q < t
   · rw [if_pos h2, if_pos (by omega)]
   · rw [if_neg h2, if_neg (by omega)]
def tagF (k2 data c : List Byte) : List Byte := dl 32 (macL k2 (data ++ (c ++ len8L data.length)))
theorem tagF_length (k2 data c : List Byte) : (tagF k2 data c).length = 32 := dl_length _ _
theorem tagged_ok {k2 data c : List Byte} (hk : k2.length ≤ 1000000) (hd : data.length ≤ 1000000) (hc : c.length ≤ 1000000) : seal_tagged k2 data c (tagF k2 data c) := by
 refine ⟨lenAt data.length 8, ?_, ?_⟩
 · refine Iter.count (fun i => (lenAt data.length i, i)) 8 (fun i hi => ?_) ?_
   · unfold seal_tagged_l0; dsimp only
     rw [if_pos (by rw [List.length_replicate]; exact hi)]
     refine ⟨by omega, by omega, by omega, by rw [List.length_replicate]; exact hi, by omega, ?_⟩
     rw [show (56 - ((8 * i : Nat) : Int)).toNat = 56 - 8 * i by omega, ← lenAt_succ _ hi]
     rfl
   · unfold seal_tagged_l0; dsimp only
     rw [if_neg (by rw [List.length_replicate]; omega)]
 · have e : lenAt data.length 8 = len8L data.length := by
     unfold lenAt len8L
     refine List.map_congr_left fun i hi => ?_
     rw [if_pos (List.mem_range.1 hi)]
   rw [e]
   have hl : (len8L data.length).length = 8 := by unfold len8L; rw [List.length_map, List.length_range]
   have hm := mac_ok (X := k2) (P := [data, c, len8L data.length]) (by omega) (by simp) (by simp only [List.flatten_cons, List.flatten_nil, List.append_nil, List.length_append]; omega)
   simp only [List.flatten_cons, List.flatten_nil, List.append_nil] at hm
   exact ⟨_, hm, rfl⟩
def encS (key : Nat → Byte) (text : List Byte) : List Byte := strF (k1F key) boxF twoF (ivF key) text
theorem encS_length (key : Nat → Byte) (text : List Byte) : (encS key text).length = text.length := strF_length _ _ _ _ _
theorem encS_twice (key : Nat → Byte) (text : List Byte) : encS key (encS key text) = text := strF_twice _ _ _ _ _
def sealF (key : Nat → Byte) (data text : List Byte) : List Byte := encS key text ++ tagF (k2F key) data (encS key text)
theorem sealF_length (key : Nat → Byte) (data text : List Byte) : (sealF key data text).length = text.length + 32 := by
 unfold sealF; rw [List.length_append, encS_length, tagF_length]
theorem seal_ok {key : Nat → Byte} {data text : List Byte} (ht : text.length ≤ 512) (hd : data.length ≤ 65535) : seal_Seal key data text (sealF key data text, 0) := by
 unfold seal_Seal
 rw [if_neg (by omega), if_neg (by omega)]
 refine .inr (.inr ⟨_, _, _, _, _, _, _, keys_ok key, ?_⟩)
 rw [if_neg (by omega)]
 refine ⟨_, str_ok _ _ _ _ _ (by omega), _, tagged_ok (by rw [k2F_length]; omega) (by omega) (by rw [strF_length]; omega), _, join_ok _ _ (by rw [strF_length]; omega) (by rw [tagF_length]; omega), rfl⟩
theorem seal_no {key : Nat → Byte} {data text : List Byte} (h : 512 < text.length ∨ 65535 < data.length) : seal_Seal key data text ([], 5) := by
 unfold seal_Seal
 by_cases ht : 512 < text.length
 · rw [if_pos ht]
 · rw [if_neg ht, if_pos (by omega)]
theorem open_short {key : Nat → Byte} {data s : List Byte} (h : s.length < 32) : seal_Open key data s ([], 10) := by
 refine ⟨by omega, ?_⟩
 rw [if_pos (by omega)]
theorem open_no {key : Nat → Byte} {data s : List Byte} (h0 : 32 ≤ s.length) (hs : s.length < 9223372036854775808) (h : 544 < s.length ∨ 65535 < data.length) : seal_Open key data s ([], 5) := by
 refine ⟨by omega, ?_⟩
 rw [if_neg (by omega)]
 by_cases hc : 544 < s.length
 · rw [if_pos (by omega)]
 · rw [if_neg (by omega), if_pos (by omega)]
def openF (key : Nat → Byte) (data s : List Byte) : List Byte × Nat :=
 if seg s (s.length - 32) s.length = tagF (k2F key) data (seg s 0 (s.length - 32)) then (encS key (seg s 0 (s.length - 32)), 0) else ([], 50)
theorem open_ok {key : Nat → Byte} {data s : List Byte} (h0 : 32 ≤ s.length) (h1 : s.length ≤ 544) (hd : data.length ≤ 65535) : seal_Open key data s (openF key data s) := by
 have e : (((s.length : Nat) : Int) - 32).toNat = s.length - 32 := by omega
 have hcl : (seg s 0 (s.length - 32)).length = s.length - 32 := by rw [seg_length (by omega)]; omega
 refine ⟨by omega, ?_⟩
 rw [if_neg (by omega), if_neg (by omega), if_neg (by omega), e]
 refine .inr (.inr ⟨_, _, _, _, _, _, _, keys_ok key, ?_⟩)
 rw [if_neg (by omega)]
 refine ⟨by omega, by omega, by omega, by omega, _, tagged_ok (by rw [k2F_length]; omega) (by omega) (by omega), _, same_ok _ _ (by rw [seg_length (Nat.le_refl _)]; omega), ?_⟩
 unfold openF
 by_cases h : seg s (s.length - 32) s.length = tagF (k2F key) data (seg s 0 (s.length - 32))
 · rw [if_pos (decide_eq_true h), if_pos h]
   exact ⟨by omega, by omega, _, str_ok _ _ _ _ _ (by omega), rfl⟩
 · rw [if_neg (by simpa using h), if_neg h]
theorem length_ok (n : Int) : seal_Length n (if 0 ≤ n ∧ n ≤ 512 then n + 32 else 0) := by
 unfold seal_Length
 by_cases h0 : n < 0
 · rw [if_pos h0, if_neg (by omega)]
 · rw [if_neg h0]
   by_cases h1 : 512 < n
   · rw [if_pos h1, if_neg (by omega)]
   · rw [if_neg h1, if_pos (by omega)]
theorem open_seal {key : Nat → Byte} {data text : List Byte} : openF key data (sealF key data text) = (text, 0) := by
 have hl := sealF_length key data text
 have hcl := encS_length key text
 have e1 : seg (sealF key data text) 0 ((sealF key data text).length - 32) = encS key text := by
   rw [hl, seg_zero, show text.length + 32 - 32 = (encS key text).length by omega]
   unfold sealF
   exact List.take_left' rfl
 have e2 : seg (sealF key data text) ((sealF key data text).length - 32) (sealF key data text).length = tagF (k2F key) data (encS key text) := by
   unfold seg
   rw [List.take_length, hl, show text.length + 32 - 32 = (encS key text).length by omega]
   unfold sealF
   exact List.drop_left' rfl
 unfold openF
 rw [e1, e2, if_pos rfl, encS_twice]
end Go.Proofs.YthjkmhdgenmnoaaDoor
namespace Go.Proofs.YthjkmhdgenmnoaaDoor
set_option linter.unusedSimpArgs false
set_option linter.unusedVariables false
set_option linter.unusedSectionVars false
open Go Go.LW
theorem iter_ga {S X : Type} {step : S → S ⊕ X → Prop} (J : S → Prop) (Q : X → Prop) (μ : S → Nat)
   (h : ∀ s, J s → (∃ x, step s (.inr x) ∧ Q x) ∨ ∃ s', step s (.inl s') ∧ J s' ∧ μ s' < μ s) : ∀ n s, μ s < n → J s → ∃ x, Iter step s x ∧ Q x
 | 0, s, hn, _ => absurd hn (Nat.not_lt_zero _)
 | n + 1, s, hn, hJ => by
   rcases h s hJ with ⟨x, hx, hQ⟩ | ⟨s', hs, hJ', hm⟩
   · exact ⟨x, .done hx, hQ⟩
   · obtain ⟨x, hx, hQ⟩ := iter_ga J Q μ h n s' (by omega) hJ'
     exact ⟨x, .more hs hx, hQ⟩
def mkl {α : Type} (f : Nat → α) (l : List α) (i : Nat) : List α := (List.range i).map f ++ l.drop i
theorem mkl_all {α : Type} (f : Nat → α) (l : List α) : mkl f l l.length = (List.range l.length).map f := by unfold mkl; rw [List.drop_length, List.append_nil]
theorem mkl_set {α : Type} (f : Nat → α) (l : List α) {i : Nat} (h : i < l.length) : (mkl f l i).set i (f i) = mkl f l (i + 1) := by
 unfold mkl
 rw [List.set_append, if_neg (by rw [List.length_map, List.length_range]; omega), List.length_map, List.length_range, Nat.sub_self, List.drop_eq_getElem_cons h, List.set_cons_zero, List.range_succ, List.map_append, List.append_assoc]
 rfl
theorem mkl_lit (f : Nat → Byte) (l : List Byte) {i : Nat} (h : i < l.length) : lit (mkl f l (i + 1)) i = f i := by
 unfold lit mkl
 rw [List.getD_eq_getElem?_getD, List.getElem?_append_left (by rw [List.length_map, List.length_range]; omega), List.getElem?_map, List.getElem?_range (by omega)]
 rfl
theorem map_snoc {α : Type} (f : Nat → α) (i : Nat) : (List.range i).map f ++ [f i] = (List.range (i + 1)).map f := by rw [List.range_succ, List.map_append]; rfl
def rooM (X : List Byte) : List Byte := X ++ [209#8, 210#8, 211#8]
theorem rooM_length (X : List Byte) : (rooM X).length = X.length + 3 := by unfold rooM; rw [List.length_append]; rfl
theorem rooM_seg (X : List Byte) : seg (rooM X) 0 X.length = X := by unfold seg rooM; simp
end Go.Proofs.YthjkmhdgenmnoaaDoor
namespace Go.Proofs.YthjkmhdgenmnoaaDoor
set_option linter.unusedSimpArgs false
set_option linter.unusedVariables false
set_option linter.unusedSectionVars false
open Go Go.LW
set_option maxRecDepth 10000
def pA (a b : Byte) : Nat → Nat
 | 0 => 0
 | i + 1 => if (b >>> i) &&& 1#8 = 1#8 then pA a b i ^^^ (a.toNat * 2 ^ i) else pA a b i
def rB (p : Nat) : Nat → Nat
 | 0 => p
 | j + 1 => if (rB p j / 2 ^ (14 - j)) &&& 1 = 1 then rB p j ^^^ (283 * 2 ^ (14 - j - 8)) else rB p j
theorem pA_lt (a b : Byte) : ∀ i, i ≤ 8 → pA a b i < 2 ^ 16
 | 0, _ => by show 0 < 2 ^ 16; decide
 | i + 1, h => by
   have h1 := pA_lt a b i (by omega)
   have h2 : a.toNat * 2 ^ i < 2 ^ 16 := by
     have h3 : 2 ^ i ≤ 2 ^ 7 := Nat.pow_le_pow_right (by omega) (by omega)
     have h4 := a.isLt
     calc a.toNat * 2 ^ i ≤ 255 * 2 ^ 7 := Nat.mul_le_mul (by omega) h3
       _ < 2 ^ 16 := by decide
   unfold pA
   split
   · exact Nat.xor_lt_two_pow h1 h2
   · exact h1
theorem rB_lt {p : Nat} (hp : p < 2 ^ 16) : ∀ j, j ≤ 7 → rB p j < 2 ^ 16
 | 0, _ => hp
 | j + 1, h => by
   have h1 := rB_lt hp j (by omega)
   have h2 : 283 * 2 ^ (14 - j - 8) < 2 ^ 16 := by
     have h3 : 2 ^ (14 - j - 8) ≤ 2 ^ 6 := Nat.pow_le_pow_right (by omega) (by omega)
     calc 283 * 2 ^ (14 - j - 8) ≤ 283 * 2 ^ 6 := Nat.mul_le_mul (Nat.le_refl _) h3
       _ < 2 ^ 16 := by decide
   unfold rB
   split
   · exact Nat.xor_lt_two_pow h1 h2
   · exact h1
theorem bit_and {p i : Nat} : ((p / 2 ^ i) &&& 1 = 1) ↔ p.testBit i = true := by
 rw [Nat.and_one_is_mod, Nat.testBit_eq_decide_div_mod_eq, decide_eq_true_iff]
theorem xsN (a b : Nat) : a ^^^ (a ^^^ b) = b := by rw [← Nat.xor_assoc, Nat.xor_self, Nat.zero_xor]
theorem rB_add (p q : Nat) : ∀ j, rB (p ^^^ q) j = rB p j ^^^ rB q j
 | 0 => rfl
 | j + 1 => by
   unfold rB
   rw [rB_add p q j]
   simp only [bit_and, Nat.testBit_xor]
   generalize rB p j = x
   generalize rB q j = y
   generalize 283 * 2 ^ (14 - j - 8) = m
   cases x.testBit (14 - j) <;> cases y.testBit (14 - j) <;> simp only [Bool.xor_false, Bool.xor_true, Bool.not_true, Bool.not_false, if_true, Bool.false_eq_true, if_false, Nat.xor_assoc]
   · rw [Nat.xor_comm m y]
   · rw [Nat.xor_comm y m, xsN]
theorem bitb_add (b c : Byte) (i : Fin 8) : ((((b ^^^ c) >>> i.val) &&& 1#8 = 1#8) ↔ ¬ (((b >>> i.val) &&& 1#8 = 1#8) ↔ ((c >>> i.val) &&& 1#8 = 1#8))) := by
 have h : ∀ (i : Fin 8) (x : Byte), ((x >>> i.val) &&& 1#8 = 1#8) ↔ x.getLsbD i.val = true := by decide +kernel
 rw [h, h, h, BitVec.getLsbD_xor]
 cases b.getLsbD i.val <;> cases c.getLsbD i.val <;> simp
theorem pA_add (a b c : Byte) : ∀ i, i ≤ 8 → pA a (b ^^^ c) i = pA a b i ^^^ pA a c i
 | 0, _ => (Nat.xor_self 0).symm
 | i + 1, hi => by
   unfold pA
   rw [pA_add a b c i (by omega)]
   have h := bitb_add b c ⟨i, by omega⟩
   dsimp only at h
   simp only [h]
   generalize pA a b i = x
   generalize pA a c i = y
   generalize a.toNat * 2 ^ i = m
   by_cases h1 : (b >>> i) &&& 1#8 = 1#8
   · by_cases h2 : (c >>> i) &&& 1#8 = 1#8
     · simp only [h1, h2, not_true_eq_false, if_true, if_false]
       rw [Nat.xor_assoc, Nat.xor_comm y m, xsN]
     · simp only [h1, h2, iff_false, not_true_eq_false, not_false_eq_true, if_true, if_false]
       rw [Nat.xor_assoc, Nat.xor_assoc, Nat.xor_comm y m]
   · by_cases h2 : (c >>> i) &&& 1#8 = 1#8
     · simp only [h1, h2, false_iff, not_true_eq_false, not_false_eq_true, if_true, if_false]
       rw [Nat.xor_assoc]
     · simp only [h1, h2, not_true_eq_false, if_false]
def mulR (a b : Byte) : Byte := BitVec.ofNat 8 (rB (pA a b 8) 7)
theorem mulR_add (a : Byte) : Add8 fun b => mulR a b := fun b c => by
 show BitVec.ofNat 8 (rB (pA a (b ^^^ c) 8) 7) = BitVec.ofNat 8 (rB (pA a b 8) 7) ^^^ BitVec.ofNat 8 (rB (pA a c 8) 7)
 rw [pA_add a b c 8 (Nat.le_refl _), rB_add, BitVec.ofNat_xor]
theorem mulR_eq (a b : Byte) : mulR a b = mul8 a b := by
 have h : ∀ a : Byte, ∀ i : Fin 8, mulR a (1#8 <<< i.val) = mul8 a (1#8 <<< i.val) := by decide +kernel
 exact ext8 (mulR_add a) (mul_addR a) (fun i hi => h a ⟨i, hi⟩) b
theorem refmul_ok (a b : Byte) : letheref04_Mul a b (mul8 a b) := by
 rw [← mulR_eq]
 refine ⟨pA a b 8, ?_, rB (pA a b 8) 7, ?_, rfl⟩
 · refine Iter.count (fun i => (pA a b i, i)) 8 (fun i hi => ?_) ?_
   · unfold letheref04_Mul_l0; dsimp only
     have h1 := pA_lt a b i (by omega)
     have h3 : 2 ^ i ≤ 2 ^ 7 := Nat.pow_le_pow_right (by omega) (by omega)
     have h4 := a.isLt
     have h2 : a.toNat * 2 ^ i ≤ 255 * 2 ^ 7 := Nat.mul_le_mul (by omega) h3
     rw [if_pos hi, pA]
     by_cases hb : (b >>> i) &&& 1#8 = 1#8
     · rw [if_pos hb, if_pos hb]; exact ⟨⟨by omega, by omega⟩, ⟨by omega, by omega⟩, rfl⟩
     · rw [if_neg hb, if_neg hb]
   · unfold letheref04_Mul_l0; dsimp only; rw [if_neg (by omega)]
 · have hp := pA_lt a b 8 (Nat.le_refl _)
   generalize pA a b 8 = p at hp
   refine Iter.count (fun j => (rB p j, (14 : Int) - j)) 7 (fun j hj => ?_) ?_
   · unfold letheref04_Mul_l1; dsimp only
     have h1 := rB_lt hp j (by omega)
     have e1 : ((14 : Int) - j).toNat = 14 - j := by omega
     have e2 : ((14 : Int) - j - 8).toNat = 14 - j - 8 := by omega
     have h3 : 2 ^ (14 - j - 8) ≤ 2 ^ 6 := Nat.pow_le_pow_right (by omega) (by omega)
     have h2 : 283 * 2 ^ (14 - j - 8) ≤ 283 * 2 ^ 6 := Nat.mul_le_mul (Nat.le_refl _) h3
     have h5 := Nat.div_le_self (rB p j) (2 ^ (14 - j))
     have e3 : (14 : Int) - ((j + 1 : Nat) : Int) = 14 - (j : Int) - 1 := by omega
     rw [if_pos (by omega), e1, e2, rB, e3]
     refine ⟨by omega, by omega, ⟨by omega, by omega⟩, ?_⟩
     by_cases hb : (rB p j / 2 ^ (14 - j)) &&& 1 = 1
     · rw [if_pos hb, if_pos hb]; exact ⟨by omega, by omega, ⟨by omega, by omega⟩, ⟨by omega, by omega⟩, by omega, rfl⟩
     · rw [if_neg hb, if_neg hb]; exact ⟨by omega, rfl⟩
   · unfold letheref04_Mul_l1; dsimp only; rw [if_neg (by omega)]
theorem refbox_ok : ∃ x, letheref04_box x ∧ ∀ v : Byte, x v.toNat = sb v := ⟨_, rfl, by decide +kernel⟩
theorem innerAt_at (m g : F8) {t : Nat} (ht : 8 ≤ t) : ∀ k, k ≤ 4 → ∀ p, innerAt m g t k p = if t * 4 ≤ p ∧ p < t * 4 + k then m ((t - 8) * 4 + (p - t * 4)) ^^^ g (p - t * 4) else m p
 | 0, _, p => by rw [if_neg (by omega)]; rfl
 | k + 1, hk, p => by
   have e8 : ¬ (t * 4 ≤ (t - 8) * 4 + k ∧ (t - 8) * 4 + k < t * 4 + k) := by omega
   rw [innerAt, upd_at, innerAt_at m g ht k (by omega) ((t - 8) * 4 + k), if_neg e8]
   by_cases hp : p = t * 4 + k
   · subst hp
     rw [if_pos rfl, if_pos (by omega)]
     have e : t * 4 + k - t * 4 = k := by omega
     rw [e]
   · rw [if_neg hp, innerAt_at m g ht k (by omega) p]
     by_cases h1 : t * 4 ≤ p ∧ p < t * 4 + k
     · rw [if_pos h1, if_pos (by omega)]
     · rw [if_neg h1, if_neg (by omega)]
def WS (key : List Byte) (t : Nat) (m : List (Nat → Byte)) : Prop := m.length = t ∧ ∀ s, s < t → ∀ q, q < 4 → m.getD s (fun _ => 0#8) q = (exAt boxF key t).2 (s * 4 + q)
theorem WS.snoc {key : List Byte} {t : Nat} {m : List (Nat → Byte)} (h : WS key t m) {x : Nat → Byte} (hx : ∀ q, q < 4 → x q = (exAt boxF key (t + 1)).2 (t * 4 + q)) (ho : ∀ p, p < t * 4 → (exAt boxF key (t + 1)).2 p = (exAt boxF key t).2 p) : WS key (t + 1) (m ++ [x]) := by
 obtain ⟨h1, h2⟩ := h
 refine ⟨by rw [List.length_append, h1]; rfl, fun s hs q hq => ?_⟩
 by_cases hst : s < t
 · rw [List.getD_eq_getElem?_getD, List.getElem?_append_left (by omega), ← List.getD_eq_getElem?_getD, h2 s hst q hq, ho _ (by omega)]
 · obtain rfl : s = t := by omega
   rw [List.getD_eq_getElem?_getD, List.getElem?_append_right (by omega), h1, Nat.sub_self]
   exact hx q hq
def uR (x : Nat → Byte) : Nat → Nat → Byte
 | 0 => fun _ => 0#8
 | a + 1 => upd (uR x a) (x a).toNat (BitVec.ofNat 8 a)
theorem uR_at {x : Nat → Byte} (hx : ∀ v : Byte, x v.toNat = sb v) (v : Byte) : uR x 256 v.toNat = isb v := by
 have hxn : ∀ i, i < 256 → x i = sb (BitVec.ofNat 8 i) := fun i hi => by
   have := hx (BitVec.ofNat 8 i)
   rwa [BitVec.toNat_ofNat, Nat.mod_eq_of_lt (by omega)] at this
 refine upd_all (T := fun n => isb (BitVec.ofNat 8 n)) (f := uR x) (idx := fun a => (x a).toNat) (val := fun a => BitVec.ofNat 8 a) (m := 256) (fun _ _ => rfl) (fun i hi => ?_) 256 (Nat.le_refl _) v.toNat (.inr ⟨(isb v).toNat, (isb v).isLt, ?_⟩) |>.trans ?_
 · rw [hxn i hi, BitVec.ofNat_toNat, BitVec.setWidth_eq, isb_sb]
 · rw [hx, sb_isb]
 · rw [BitVec.ofNat_toNat, BitVec.setWidth_eq]
structure RC (key : List Byte) (W : List (Nat → Byte)) (x u : Nat → Byte) : Prop where
 len : W.length = 60
 at_ : ∀ s, s < 60 → ∀ q, q < 4 → W.getD s (fun _ => 0#8) q = keyF key (s * 4 + q)
 box : ∀ v : Byte, x v.toNat = sb v
 unb : ∀ v : Byte, u v.toNat = isb v
theorem refnew_ok {key : List Byte} (hk : key.length = 32) : ∃ W x u, letheref04_New key (.inr (W, x, u)) ∧ RC key W x u := by
 obtain ⟨x, hb, hx⟩ := refbox_ok
 have e8 : key.length / 4 = 8 := by omega
 -- the first eight words
 have l1 : ∃ m, Iter (letheref04_New_l1 key) (0, []) m ∧ WS key 8 m := by
   refine iter_ga (step := letheref04_New_l1 key) (fun s : Nat × List (Nat → Byte) => s.1 ≤ 8 ∧ WS key s.1 s.2) (fun m => WS key 8 m) (fun s => 8 - s.1) ?_ 9 (0, []) (by dsimp only; omega) ⟨by dsimp only; omega, rfl, fun s hs => absurd hs (Nat.not_lt_zero _)⟩
   rintro ⟨i, m⟩ ⟨hi, hm⟩
   dsimp only at hi hm ⊢
   unfold letheref04_New_l1; dsimp only
   rw [e8]
   by_cases h : i < 8
   · have hl := hm.1
     refine .inr ⟨(i + 1, m ++ [lit [lit key (4 * i), lit key (4 * i + 1), lit key (4 * i + 2), lit key (4 * i + 3)]]), ?_, ⟨by dsimp only; omega, ?_⟩, by dsimp only; omega⟩
     · rw [if_pos h]
       refine ⟨by omega, by omega, by omega, by omega, by omega, by omega, by omega, by omega, by omega, by omega, by omega, ?_, by omega, rfl⟩
       rw [hl, List.length_singleton]; omega
     · have hsl : (seg key (4 * i) key.length).length = 32 - 4 * i := by rw [seg_length (by omega)]; omega
       have hmin : min (seg key (4 * i) key.length).length 4 = 4 := by rw [hsl]; omega
       refine hm.snoc (fun q hq => ?_) fun p hp => ?_
       · unfold exAt
         rw [if_pos h]
         dsimp only
         rw [hmin, spl_in _ _ _ _ _ (by omega)]
         have e : i * 4 + q - i * 4 = q := by omega
         rw [e, lit_seg (Nat.le_refl _) (by omega)]
         match q, hq with
         | 0, _ => rfl
         | 1, _ => rfl
         | 2, _ => rfl
         | 3, _ => rfl
       · show (exAt boxF key (i + 1)).2 p = _
         rw [exAt, if_pos h]
         dsimp only
         rw [spl_out _ _ _ _ _ (by omega)]
   · obtain rfl : i = 8 := by omega
     exact .inl ⟨m, by rw [if_neg h], hm⟩
 obtain ⟨m8, hm8, hW8⟩ := l1
 have l2 : ∃ m, Iter (letheref04_New_l2 key x) (1#8, 8, m8) m ∧ WS key 60 m := by
   have e0 : (exAt boxF key 8).1 = 1#8 := rfl
   refine iter_ga (step := letheref04_New_l2 key x) (fun s : Byte × Nat × List (Nat → Byte) => 8 ≤ s.2.1 ∧ s.2.1 ≤ 60 ∧ s.1 = (exAt boxF key s.2.1).1 ∧ WS key s.2.1 s.2.2) (fun m => WS key 60 m) (fun s => 60 - s.2.1) ?_ 53 (1#8, 8, m8) (by dsimp only; omega) ⟨by dsimp only; omega, by dsimp only; omega, e0.symm, hW8⟩
   rintro ⟨pw, i, m⟩ ⟨h8, h60, hp, hm⟩
   dsimp only at h8 h60 hp hm ⊢
   subst hp
   unfold letheref04_New_l2; dsimp only
   rw [e8]
   by_cases h : i < 60
   · have hl := hm.1
     have i1 : (((i : Nat) : Int) - 1).toNat = i - 1 := by omega
     have i8 : (((i : Nat) : Int) - ((8 : Nat) : Int)).toNat = i - 8 := by omega
     obtain ⟨g, hg, hgw⟩ : ∃ g : Nat → Byte, (∀ q, q < 4 → g q = gW boxF (exAt boxF key i).1 i (exAt boxF key i).2 q) ∧ (
         if i % 8 = 0 then ∃ x_312, letheref04_Mul (exAt boxF key i).1 2#8 x_312 ∧ pwW (exAt boxF key i).1 i = x_312 ∧ g = upd (lit [x ((m.getD (i - 1) (fun _ => 0#8) 1).toNat), x ((m.getD (i - 1) (fun _ => 0#8) 2).toNat), x ((m.getD (i - 1) (fun _ => 0#8) 3).toNat), x ((m.getD (i - 1) (fun _ => 0#8) 0).toNat)]) 0 ((lit [x ((m.getD (i - 1) (fun _ => 0#8) 1).toNat), x ((m.getD (i - 1) (fun _ => 0#8) 2).toNat), x ((m.getD (i - 1) (fun _ => 0#8) 3).toNat), x ((m.getD (i - 1) (fun _ => 0#8) 0).toNat)]) 0 ^^^ (exAt boxF key i).1)
         else if i % 8 = 4 then pwW (exAt boxF key i).1 i = (exAt boxF key i).1 ∧ g = lit [x ((m.getD (i - 1) (fun _ => 0#8) 0).toNat), x ((m.getD (i - 1) (fun _ => 0#8) 1).toNat), x ((m.getD (i - 1) (fun _ => 0#8) 2).toNat), x ((m.getD (i - 1) (fun _ => 0#8) 3).toNat)]
         else pwW (exAt boxF key i).1 i = (exAt boxF key i).1 ∧ g = m.getD (i - 1) (fun _ => 0#8)) := by
       have hw : ∀ q, q < 4 → m.getD (i - 1) (fun _ => 0#8) q = (exAt boxF key i).2 ((i - 1) * 4 + q) := fun q hq => hm.2 (i - 1) (by omega) q hq
       have hbx : ∀ v : Byte, x v.toNat = boxF v.toNat := fun v => by rw [hx, box_at]
       by_cases h0 : i % 8 = 0
       · refine ⟨_, fun q hq => ?_, by rw [if_pos h0]; exact ⟨_, refmul_ok _ _, by unfold pwW; rw [if_pos h0], rfl⟩⟩
         unfold gW
         rw [if_pos h0]
         dsimp only
         rw [← hw 0 (by omega), ← hw 1 (by omega), ← hw 2 (by omega), ← hw 3 (by omega), upd_at]
         match q, hq with
         | 0, _ => rw [if_pos rfl]; exact congrArg (· ^^^ _) (hbx _)
         | 1, _ => rw [if_neg (by omega)]; exact hbx _
         | 2, _ => rw [if_neg (by omega)]; exact hbx _
         | 3, _ => rw [if_neg (by omega)]; exact hbx _
       · by_cases h4 : i % 8 = 4
         · refine ⟨_, fun q hq => ?_, by rw [if_neg h0, if_pos h4]; exact ⟨by unfold pwW; rw [if_neg h0], rfl⟩⟩
           unfold gW
           rw [if_neg h0, if_pos h4]
           dsimp only
           rw [← hw 0 (by omega), ← hw 1 (by omega), ← hw 2 (by omega), ← hw 3 (by omega)]
           match q, hq with
           | 0, _ => exact hbx _
           | 1, _ => exact hbx _
           | 2, _ => exact hbx _
           | 3, _ => exact hbx _
         · refine ⟨_, fun q hq => ?_, by rw [if_neg h0, if_neg h4]; exact ⟨by unfold pwW; rw [if_neg h0], rfl⟩⟩
           unfold gW
           rw [if_neg h0, if_neg h4]
           exact hw q hq
     have ex1 : exAt boxF key (i + 1) = (pwW (exAt boxF key i).1 i, innerAt (exAt boxF key i).2 (gW boxF (exAt boxF key i).1 i (exAt boxF key i).2) i 4) := by
       rw [exAt, if_neg (by omega)]
     refine .inr ⟨(pwW (exAt boxF key i).1 i, i + 1, m ++ [lit [m.getD (i - 8) (fun _ => 0#8) 0 ^^^ g 0, m.getD (i - 8) (fun _ => 0#8) 1 ^^^ g 1, m.getD (i - 8) (fun _ => 0#8) 2 ^^^ g 2, m.getD (i - 8) (fun _ => 0#8) 3 ^^^ g 3]]), ?_, ⟨by dsimp only; omega, by dsimp only; omega, by dsimp only; rw [ex1], ?_⟩, by dsimp only; omega⟩
     · refine ⟨by omega, by omega, ?_⟩
       rw [if_pos (by omega), i1, i8, hl]
       refine ⟨by omega, by omega, pwW (exAt boxF key i).1 i, g, ⟨by omega, ?_⟩, by omega, by omega, ?_, by omega, rfl⟩
       · by_cases h0 : i % 8 = 0
         · rw [if_pos h0] at hgw ⊢; exact hgw
         · rw [if_neg h0] at hgw ⊢
           rw [if_pos rfl]
           by_cases h4 : i % 8 = 4
           · rw [if_pos h4] at hgw ⊢; exact hgw
           · rw [if_neg h4] at hgw ⊢; exact hgw
       · simp only [List.length_singleton]; omega
     · refine hm.snoc (fun q hq => ?_) fun p hp => ?_
       · rw [ex1]
         dsimp only
         rw [innerAt_at _ _ h8 4 (Nat.le_refl _), if_pos (by omega)]
         have e : i * 4 + q - i * 4 = q := by omega
         rw [e, ← hg q hq, ← hm.2 (i - 8) (by omega) q hq]
         match q, hq with
         | 0, _ => rfl
         | 1, _ => rfl
         | 2, _ => rfl
         | 3, _ => rfl
       · rw [ex1]
         dsimp only
         rw [innerAt_at _ _ h8 4 (Nat.le_refl _), if_neg (by omega)]
   · obtain rfl : i = 60 := by omega
     exact .inl ⟨m, ⟨by omega, by omega, by rw [if_neg (by omega)]⟩, hm⟩
 obtain ⟨m60, hm60, hW⟩ := l2
 refine ⟨m60, x, uR x 256, ⟨by omega, true, by rw [if_pos (by omega), if_pos (by omega), if_neg (by omega)], fun _ => ⟨x, hb, uR x 256, ?_, m8, hm8, m60, by rw [e8]; exact hm60, rfl⟩⟩, hW.1, fun s hs q hq => ?_, hx, uR_at hx⟩
 · refine Iter.count (fun a => (a, uR x a)) 256 (fun a ha => ?_) ?_
   · unfold letheref04_New_l0; dsimp only; rw [if_pos ha, uR]
   · unfold letheref04_New_l0; dsimp only; rw [if_neg (by omega)]
 · rw [hW.2 s hs q hq]
   unfold keyF expF kAt
   rw [if_pos (by omega)]
section
variable {key : List Byte} {W : List (Nat → Byte)} {x u : Nat → Byte}
theorem refrounds_ok (h : RC key W x u) : letheref04_Cipher_rounds W x u 14 := by
 have := h.len
 refine ⟨by omega, by omega, ?_⟩
 rw [this]; rfl
theorem refadd_ok (h : RC key W x u) (b : F8) {r : Nat} (hr : r < 15) : letheref04_Cipher_add W x u b (r : Int) (addF (keyF key) r b) := by
 refine ⟨addF (keyF key) r b, ?_, rfl⟩
 refine Iter.count (fun i => (i, addAt (keyF key) r b i)) 16 (fun i hi => ?_) ?_
 · unfold letheref04_Cipher_add_l0; dsimp only
   have hl := h.len
   have e : (4 * (r : Int) + ((i / 4 : Nat) : Int)).toNat = 4 * r + i / 4 := by omega
   rw [if_pos hi, e, hl]
   refine ⟨by omega, by omega, by omega, ?_⟩
   congr 2
   rw [h.at_ _ (by omega) _ (by omega)]
   have e2 : (4 * r + i / 4) * 4 + i % 4 = r * 16 + i := by omega
   rw [e2]
   funext q
   rw [upd_at]
   unfold addAt
   by_cases hq : q = i
   · subst hq; rw [if_pos rfl, if_pos (by omega), if_neg (by omega)]
   · rw [if_neg hq]
     by_cases h2 : q < i
     · rw [if_pos h2, if_pos (by omega)]
     · rw [if_neg h2, if_neg (by omega)]
 · unfold letheref04_Cipher_add_l0; dsimp only; rw [if_neg (by omega)]; rfl
def turnF (b : F8) (n : Nat) (k : Nat) : F8 := fun q => if q < k then b (q % 4 + 4 * ((q / 4 + q % 4 * n) % 4)) else 0#8
theorem turnF_succ (b : F8) (n : Nat) {k v : Nat} (hv : v = k % 4 + 4 * ((k / 4 + k % 4 * n) % 4)) : upd (turnF b n k) k (b v) = turnF b n (k + 1) := by
 subst hv
 funext q
 rw [upd_at]
 unfold turnF
 by_cases hq : q = k
 · subst hq; rw [if_pos rfl, if_pos (by omega)]
 · rw [if_neg hq]
   by_cases h2 : q < k
   · rw [if_pos h2, if_pos (by omega)]
   · rw [if_neg h2, if_neg (by omega)]
theorem refturned_ok (b : F8) {n : Nat} (hn : n < 100) : letheref04_turned b (n : Int) (turnF b n 16) := by
 have e0 : (fun _ => 0#8) = turnF b n 0 := by funext q; unfold turnF; rw [if_neg (by omega)]
 refine ⟨turnF b n 16, ?_, rfl⟩
 rw [e0]
 refine Iter.count (fun c => (c, turnF b n (4 * c))) 4 (fun c hc => ?_) ?_
 · unfold letheref04_turned_l0; dsimp only
   rw [if_pos hc]
   refine ⟨turnF b n (4 * (c + 1)), ?_, rfl⟩
   refine Iter.count (fun r => (r, turnF b n (4 * c + r))) 4 (fun r hr => ?_) ?_
   · unfold letheref04_turned_l1; dsimp only
     have e1 : ((r : Nat) : Int) * (n : Int) = ((r * n : Nat) : Int) := by rw [Int.natCast_mul]
     have hrn : r * n ≤ 3 * 100 := Nat.mul_le_mul (by omega) (by omega)
     have e2 : (((c : Nat) : Int) + ((r * n : Nat) : Int)).tmod 4 = (((c + r * n) % 4 : Nat) : Int) := by rw [Int.tmod_eq_emod_of_nonneg (by omega)]; omega
     rw [if_pos hr, e1, e2]
     have e3 : (((r : Nat) : Int) + 4 * (((c + r * n) % 4 : Nat) : Int)).toNat = r + 4 * ((c + r * n) % 4) := by omega
     rw [e3, Nat.add_comm r (4 * c)]
     refine ⟨by omega, by omega, by omega, ?_⟩
     rw [turnF_succ b n (k := 4 * c + r)]
     · rfl
     · have a1 : (4 * c + r) % 4 = r := by omega
       have a2 : (4 * c + r) / 4 = c := by omega
       rw [a1, a2]
   · unfold letheref04_turned_l1; dsimp only; rw [if_neg (by omega)]; rfl
 · unfold letheref04_turned_l0; dsimp only; rw [if_neg (by omega)]
def mixR (b : F8) (k : Nat) : F8 := fun q => if q < k then ((mul8 2#8 (b (4 * (q / 4) + q % 4)) ^^^ mul8 3#8 (b (4 * (q / 4) + (q % 4 + 1) % 4))) ^^^ b (4 * (q / 4) + (q % 4 + 2) % 4)) ^^^ b (4 * (q / 4) + (q % 4 + 3) % 4) else 0#8
theorem refmixed_ok (b : F8) : letheref04_mixed b (mixR b 16) := by
 have e0 : (fun _ => 0#8) = mixR b 0 := by funext q; unfold mixR; rw [if_neg (by omega)]
 refine ⟨mixR b 16, ?_, rfl⟩
 rw [e0]
 refine Iter.count (fun c => (c, mixR b (4 * c))) 4 (fun c hc => ?_) ?_
 · unfold letheref04_mixed_l0; dsimp only
   rw [if_pos hc]
   refine ⟨mixR b (4 * (c + 1)), ?_, rfl⟩
   refine Iter.count (fun r => (r, mixR b (4 * c + r))) 4 (fun r hr => ?_) ?_
   · unfold letheref04_mixed_l1; dsimp only
     rw [if_pos hr]
     refine ⟨_, refmul_ok _ _, _, refmul_ok _ _, ?_⟩
     congr 2
     funext q
     rw [upd_at]
     unfold mixR
     by_cases hq : q = 4 * c + r
     · have a1 : q % 4 = r := by omega
       have a2 : q / 4 = c := by omega
       rw [if_pos hq, if_pos (by omega), a1, a2]
     · rw [if_neg hq]
       by_cases h2 : q < 4 * c + r
       · rw [if_pos h2, if_pos (by omega)]
       · rw [if_neg h2, if_neg (by omega)]
   · unfold letheref04_mixed_l1; dsimp only; rw [if_neg (by omega)]; rfl
 · unfold letheref04_mixed_l0; dsimp only; rw [if_neg (by omega)]
theorem mix_same (b : F8) : E16 (mixR b 16) (mixF twoF b) := by
 have h2 : ∀ v : Byte, mul8 2#8 v = xt v := by decide +kernel
 have h3 : ∀ v : Byte, mul8 3#8 v = xt v ^^^ v := by decide +kernel
 refine E16.cols fun c i hc hi => ?_
 rw [mixF_at _ _ hc hi, show colv twoF i (b (4 * c)) (b (4 * c + 1)) (b (4 * c + 2)) (b (4 * c + 3)) = colT i (b (4 * c)) (b (4 * c + 1)) (b (4 * c + 2)) (b (4 * c + 3)) from rfl, colT_X]
 unfold mixR
 have a1 : (4 * c + i) % 4 = i := by omega
 have a2 : (4 * c + i) / 4 = c := by omega
 rw [if_pos (by omega), a1, a2, h2, h3]
 generalize hw : b (4 * c) = w
 generalize hx : b (4 * c + 1) = x
 generalize hy : b (4 * c + 2) = y
 generalize hz : b (4 * c + 3) = z
 match i, hi with
 | 0, _ => simp only [Nat.add_zero, Nat.zero_add, Nat.reduceMod, hw, hx, hy, hz, colX, xt_add w x]; generalize xt w = W; generalize xt x = X; simp only [BitVec.xor_assoc, BitVec.xor_comm, xlc, xsc]
 | 1, _ => simp only [Nat.reduceAdd, Nat.reduceMod, Nat.add_zero, hw, hx, hy, hz, colX, xt_add x y]; generalize xt x = W; generalize xt y = X; simp only [BitVec.xor_assoc, BitVec.xor_comm, xlc, xsc]
 | 2, _ => simp only [Nat.reduceAdd, Nat.reduceMod, Nat.add_zero, hw, hx, hy, hz, colX, xt_add y z]; generalize xt y = W; generalize xt z = X; simp only [BitVec.xor_assoc, BitVec.xor_comm, xlc, xsc]
 | 3, _ => simp only [Nat.reduceAdd, Nat.reduceMod, Nat.add_zero, hw, hx, hy, hz, colX, xt_add z w]; generalize xt z = W; generalize xt w = X; simp only [BitVec.xor_assoc, BitVec.xor_comm, xlc, xsc]
def sbx (x : Nat → Byte) (m : F8) (k : Nat) : F8 := fun q => if q < k then x (m q).toNat else m q
theorem sbx_succ (x : Nat → Byte) (m : F8) (k : Nat) : upd (sbx x m k) k (x (sbx x m k k).toNat) = sbx x m (k + 1) := by
 funext q
 rw [upd_at]
 unfold sbx
 by_cases hq : q = k
 · subst hq; rw [if_pos rfl, if_neg (by omega), if_pos (by omega)]
 · rw [if_neg hq]
   by_cases h2 : q < k
   · rw [if_pos h2, if_pos (by omega)]
   · rw [if_neg h2, if_neg (by omega)]
theorem turn_sh (hx : ∀ v : Byte, x v.toNat = sb v) (m : F8) : turnF (sbx x m 16) 1 16 = shF boxF m := by
 have h : ∀ q, q < 16 → q % 4 + 4 * ((q / 4 + q % 4 * 1) % 4) = (q + 4 * (q % 4)) % 16 := by decide
 funext q
 unfold turnF shF shAt
 by_cases hq : q < 16
 · rw [if_pos hq, if_pos hq, h q hq]
   unfold sbx
   rw [if_pos (Nat.mod_lt _ (by omega)), hx, box_at]
 · rw [if_neg hq, if_neg hq]
theorem refenc_ok (h : RC key W x u) (b : F8) : ∃ y, letheref04_Cipher_Encrypt W x u b y ∧ E16 y (encF (keyF key) boxF twoF b) := by
 have key0 : ∃ y, Iter (letheref04_Cipher_Encrypt_l0 W x u) (1, addF (keyF key) 0 b) y ∧ E16 y (encF (keyF key) boxF twoF b) := by
   refine iter_ga (step := letheref04_Cipher_Encrypt_l0 W x u) (fun s : Nat × F8 => 1 ≤ s.1 ∧ s.1 ≤ 15 ∧ E16 s.2 (encAt (keyF key) boxF twoF b (s.1 - 1))) (fun y => E16 y (encF (keyF key) boxF twoF b)) (fun s => 15 - s.1) ?_ 15 (1, addF (keyF key) 0 b) (by dsimp only; omega) ⟨by dsimp only; omega, by dsimp only; omega, E16.rfl'⟩
   rintro ⟨r, m⟩ ⟨h1, h15, hm⟩
   dsimp only at h1 h15 hm ⊢
   unfold letheref04_Cipher_Encrypt_l0; dsimp only
   obtain ⟨i, rfl⟩ : ∃ i, r = i + 1 := ⟨r - 1, by omega⟩
   rw [Nat.add_sub_cancel] at hm
   by_cases hr : i < 14
   · have hsh : E16 (shF boxF m) (shF boxF (encAt (keyF key) boxF twoF b i)) := shF_E hm
     have ht := refturned_ok (sbx x m 16) (n := 1) (by omega)
     rw [turn_sh h.box] at ht
     have hit : Iter (letheref04_Cipher_Encrypt_l1 x) (0, m) (sbx x m 16) := by
       have e0 : m = sbx x m 0 := by funext q; unfold sbx; rw [if_neg (by omega)]
       conv => arg 2; rw [e0]
       refine Iter.count (fun k => (k, sbx x m k)) 16 (fun k hk => ?_) ?_
       · unfold letheref04_Cipher_Encrypt_l1; dsimp only; rw [if_pos hk, sbx_succ]
       · unfold letheref04_Cipher_Encrypt_l1; dsimp only; rw [if_neg (by omega)]
     by_cases h13 : i + 1 < 14
     · refine .inr ⟨(i + 2, addF (keyF key) (i + 1) (mixR (shF boxF m) 16)), ⟨14, refrounds_ok h, ?_⟩, ⟨by dsimp only; omega, by dsimp only; omega, ?_⟩, by dsimp only; omega⟩
       · rw [if_pos (by omega)]
         refine ⟨_, hit, _, ht, _, ⟨14, refrounds_ok h, ?_⟩, _, refadd_ok h _ (r := i + 1) (by omega), by omega, rfl⟩
         rw [if_pos (by omega)]
         exact ⟨_, refmixed_ok _, rfl⟩
       · show E16 _ (encAt (keyF key) boxF twoF b (i + 1))
         unfold encAt
         rw [if_pos h13]
         exact addF_E ((mix_same _).trans (mixF_E hsh))
     · refine .inr ⟨(i + 2, addF (keyF key) (i + 1) (shF boxF m)), ⟨14, refrounds_ok h, ?_⟩, ⟨by dsimp only; omega, by dsimp only; omega, ?_⟩, by dsimp only; omega⟩
       · rw [if_pos (by omega)]
         refine ⟨_, hit, _, ht, _, ⟨14, refrounds_ok h, ?_⟩, _, refadd_ok h _ (r := i + 1) (by omega), by omega, rfl⟩
         rw [if_neg (by omega)]
       · show E16 _ (encAt (keyF key) boxF twoF b (i + 1))
         unfold encAt
         rw [if_neg h13]
         exact addF_E hsh
   · obtain rfl : i = 14 := by omega
     exact .inl ⟨m, ⟨14, refrounds_ok h, by rw [if_neg (by omega)]⟩, hm⟩
 obtain ⟨y, hy, he⟩ := key0
 exact ⟨y, ⟨_, refadd_ok h b (r := 0) (by omega), y, hy, rfl⟩, he⟩
theorem nxAt_c (s : F8) (n : BitVec 64) : ∀ i, (nxAt s n i).2.1.toNat ≤ 1
 | 0 => by show (0#64).toNat ≤ 1; decide
 | i + 1 => by
   have h := nxAt_c s n i
   unfold nxAt
   dsimp only
   generalize (nxAt s n i).2.1 = c at h
   generalize (nxAt s n i).2.2 (15 - i) = b
   generalize (nxAt s n i).1 = m
   have hb : (b.setWidth 64).toNat = b.toNat := by rw [BitVec.toNat_setWidth]; have := b.isLt; omega
   have hm : (m &&& 255#64).toNat = m.toNat % 256 := by
     rw [BitVec.toNat_and, show (255#64 : BitVec 64).toNat = 2 ^ 8 - 1 from rfl, Nat.and_two_pow_sub_one_eq_mod]
   rw [BitVec.toNat_ushiftRight, Nat.shiftRight_eq_div_pow, BitVec.toNat_add, BitVec.toNat_add, hb, hm]
   have := b.isLt
   omega
theorem refnext_ok (s : F8) (n : BitVec 64) : letheref04_Next s n (nextF s n) := by
 refine ⟨nextF s n, ?_, rfl⟩
 refine Iter.count (fun i => ((nxAt s n i).1, (nxAt s n i).2.1.toNat, (15 : Int) - i, (nxAt s n i).2.2)) 16 (fun i hi => ?_) ?_
 · unfold letheref04_Next_l0; dsimp only
   have hc := nxAt_c s n i
   have e1 : ((15 : Int) - i).toNat = 15 - i := by omega
   have e3 : (15 : Int) - ((i + 1 : Nat) : Int) = 15 - (i : Int) - 1 := by omega
   rw [if_pos (by omega), e1, nxAt, e3]
   dsimp only
   generalize (nxAt s n i).2.1 = c at hc
   generalize hbb : (nxAt s n i).2.2 (15 - i) = b
   generalize (nxAt s n i).1 = m
   have hb : (b.setWidth 64).toNat = b.toNat := by rw [BitVec.toNat_setWidth]; have := b.isLt; omega
   have hm : (m &&& 255#64).toNat = m.toNat % 256 := by
     rw [BitVec.toNat_and, show (255#64 : BitVec 64).toNat = 2 ^ 8 - 1 from rfl, Nat.and_two_pow_sub_one_eq_mod]
   have hm2 : (m % 256#64).toNat = m.toNat % 256 := by rw [BitVec.toNat_umod]; rfl
   have hbl := b.isLt
   have hs : (b.setWidth 64 + (m &&& 255#64) + c).toNat = b.toNat + m.toNat % 256 + c.toNat := by
     rw [BitVec.toNat_add, BitVec.toNat_add, hb, hm]; omega
   rw [hm2]
   refine ⟨by omega, by omega, by omega, by omega, by omega, by omega, by omega, ?_⟩
   have d1 : m >>> 8 = m / 256#64 := by
     apply BitVec.eq_of_toNat_eq
     rw [BitVec.toNat_ushiftRight, Nat.shiftRight_eq_div_pow, BitVec.toNat_udiv]; rfl
   have d2 : ((b.setWidth 64 + (m &&& 255#64) + c) >>> 8).toNat = (b.toNat + m.toNat % 256 + c.toNat) / 256 := by
     rw [BitVec.toNat_ushiftRight, Nat.shiftRight_eq_div_pow, hs]
   have d3 : (b.setWidth 64 + (m &&& 255#64) + c).setWidth 8 = BitVec.ofNat 8 ((b.toNat + m.toNat % 256 + c.toNat) % 256) := by
     apply BitVec.eq_of_toNat_eq
     rw [BitVec.toNat_setWidth, hs, BitVec.toNat_ofNat]; omega
   rw [d1, d2, d3]
 · unfold letheref04_Next_l0; dsimp only; rw [if_neg (by omega)]; rfl
theorem refstream_ok (h : RC key W x u) (first : F8) {n : Nat} (hn : n ≤ 140737488355328) : ∃ y, letheref04_Cipher_Stream W x u first (n : Int) y ∧ y.length = n ∧ ∀ q, q < n → lit y q = encF (keyF key) boxF twoF (ctr first (q / 16)) (q % 16) := by
 have key0 : ∃ y, Iter (letheref04_Cipher_Stream_l0 W x u (n : Int)) ([], first) y ∧ y.length = n ∧ ∀ q, q < n → lit y q = encF (keyF key) boxF twoF (ctr first (q / 16)) (q % 16) := by
   refine iter_ga (step := letheref04_Cipher_Stream_l0 W x u (n : Int)) (fun s : List Byte × F8 => s.1.length ≤ n ∧ (∃ i, s.2 = ctr first i ∧ (s.1.length = 16 * i ∨ s.1.length = n)) ∧ ∀ q, q < s.1.length → lit s.1 q = encF (keyF key) boxF twoF (ctr first (q / 16)) (q % 16)) _ (fun s => n - s.1.length) ?_ (n + 1) ([], first) (by dsimp only; omega) ⟨Nat.zero_le _, ⟨0, rfl, .inl rfl⟩, fun q hq => absurd hq (Nat.not_lt_zero _)⟩
   rintro ⟨out, m⟩ ⟨hle, ⟨i, rfl, hi⟩, hat⟩
   dsimp only at hle hi hat ⊢
   unfold letheref04_Cipher_Stream_l0; dsimp only
   by_cases hlt : out.length < n
   · have hi : out.length = 16 * i := hi.resolve_right (by omega)
     obtain ⟨y, hy, he⟩ := refenc_ok h (ctr first i)
     have inner : Iter (letheref04_Cipher_Stream_l1 (n : Int) y) (out, 0) (out ++ (List.range (min 16 (n - out.length))).map y) := by
       have e0 : out = out ++ (List.range 0).map y := by simp
       conv => arg 2; rw [e0]
       refine Iter.count (fun k => (out ++ (List.range k).map y, k)) (min 16 (n - out.length)) (fun k hk => ?_) ?_
       · unfold letheref04_Cipher_Stream_l1; dsimp only
         rw [if_pos (by omega), if_pos (by rw [List.length_append, List.length_map, List.length_range]; omega), List.range_succ, List.map_append, ← List.append_assoc]
         exact ⟨by rw [List.length_append, List.length_map, List.length_range, List.length_singleton]; omega, rfl⟩
       · unfold letheref04_Cipher_Stream_l1; dsimp only
         by_cases h16 : min 16 (n - out.length) < 16
         · rw [if_pos h16, if_neg (by rw [List.length_append, List.length_map, List.length_range]; omega)]
         · rw [if_neg h16]
     refine .inr ⟨(_, _), by rw [if_pos (by omega)]; exact ⟨y, hy, _, inner, _, refnext_ok _ _, rfl⟩, ⟨?_, ⟨i + 1, rfl, ?_⟩, fun q hq => ?_⟩, ?_⟩
     · dsimp only; rw [List.length_append, List.length_map, List.length_range]; omega
     · dsimp only; rw [List.length_append, List.length_map, List.length_range]; omega
     · dsimp only at hq ⊢
       rw [List.length_append, List.length_map, List.length_range] at hq
       by_cases hq2 : q < out.length
       · rw [← hat q hq2]
         unfold lit
         rw [List.getD_eq_getElem?_getD, List.getElem?_append_left hq2, ← List.getD_eq_getElem?_getD]
       · have e1 : q / 16 = i := by omega
         have e2 : q % 16 = q - out.length := by omega
         rw [e1, e2, ← he _ (by omega)]
         unfold lit
         rw [List.getD_eq_getElem?_getD, List.getElem?_append_right (by omega), List.getElem?_map, List.getElem?_range (by omega)]; rfl
     · dsimp only; rw [List.length_append, List.length_map, List.length_range]; omega
   · have e : out.length = n := by omega
     exact .inl ⟨out, by rw [if_neg (by omega)], e, fun q hq => hat q (by omega)⟩
 obtain ⟨y, h1, h2, h3⟩ := key0
 exact ⟨y, ⟨y, h1, rfl⟩, h2, h3⟩
theorem refhide_ok (h : RC key W x u) (first : F8) {data : List Byte} (hn : data.length ≤ 140737488355328) : letheref04_Cipher_Hide W x u first data (strF (keyF key) boxF twoF first data) := by
 obtain ⟨y, hy, hl, hat⟩ := refstream_ok h first hn
 have hit : ∃ z, Iter (letheref04_Cipher_Hide_l0 data y) (y, 0) z ∧ z.length = y.length ∧ ∀ q, q < y.length → lit z q = lit y q ^^^ lit data q := by
   refine iter_ga (step := letheref04_Cipher_Hide_l0 data y) (fun s : List Byte × Nat => s.2 ≤ y.length ∧ s.1.length = y.length ∧ ∀ q, q < y.length → lit s.1 q = if q < s.2 then lit y q ^^^ lit data q else lit y q) _ (fun s => y.length - s.2) ?_ (y.length + 1) (y, 0) (by dsimp only; omega) ⟨Nat.zero_le _, rfl, fun q _ => by rw [if_neg (by dsimp only; omega)]⟩
   rintro ⟨z, i⟩ ⟨hi, hz, ha⟩
   dsimp only at hi hz ha ⊢
   unfold letheref04_Cipher_Hide_l0; dsimp only
   by_cases hlt : i < y.length
   · refine .inr ⟨(_, i + 1), by rw [if_pos hlt]; exact ⟨hlt, by omega, hlt, by omega, rfl⟩, ⟨by dsimp only; omega, by dsimp only; rw [List.length_set]; exact hz, fun q hq => ?_⟩, by dsimp only; omega⟩
     dsimp only
     rw [lit_set (by omega)]
     by_cases h1 : q = i
     · subst h1; rw [if_pos rfl, if_pos (by omega), ha q hq, if_neg (by omega)]
     · rw [if_neg h1, ha q hq]
       by_cases h2 : q < i
       · rw [if_pos h2, if_pos (by omega)]
       · rw [if_neg h2, if_neg (by omega)]
   · exact .inl ⟨z, by rw [if_neg hlt], hz, fun q hq => by rw [ha q hq, if_pos (by omega)]⟩
 obtain ⟨z, hz, hzl, hza⟩ := hit
 have e : z = strF (keyF key) boxF twoF first data := by
   refine list_ext (by rw [hzl, hl, strF_length]) fun q hq => ?_
   rw [hza q (by omega), hat q (by omega), strF_at _ _ _ _ _ (by omega), BitVec.xor_comm]
 rw [← e]
 exact ⟨y, hy, z, hz, rfl⟩
end
end Go.Proofs.YthjkmhdgenmnoaaDoor
namespace Go.Proofs.YthjkmhdgenmnoaaDoor
set_option linter.unusedSimpArgs false
set_option linter.unusedVariables false
set_option linter.unusedSectionVars false
open Go Go.LW
set_option maxRecDepth 10000
theorem refthree_ok (key : Nat → Byte) : letheref05_Three key (seg (skey key) 0 32, k2F key, ivF key) := by
 have hd : letheref03_Derive (List.replicate 32 0#8) (dl 32 key) sealName 80 (.inr (skey key, 0)) := refderive_ok (n := 80) (by rw [List.length_replicate]; decide) (by rw [dl_length]; decide) (by unfold sealName; rw [dl_length]; decide) (by decide)
 have hl := skey_length key
 refine ⟨skey key, .inr ⟨_, 0, hd, rfl⟩, ivF key, ?_, by omega, by omega, rfl⟩
 have e0 : (fun _ => 0#8) = fun q => if q < 0 then lit (skey key) (64 + q) else 0#8 := by funext q; rw [if_neg (by omega)]
 have e1 : ivF key = fun q => if q < 16 then lit (skey key) (64 + q) else 0#8 := by
   funext q
   unfold ivF
   split
   · rw [lit_seg (by omega) (by omega)]
   · exact lit_out (by rw [seg_length (by omega)]; omega)
 rw [e0, e1]
 refine Iter.count (fun i => (i, fun q => if q < i then lit (skey key) (64 + q) else 0#8)) 16 (fun i hi => ?_) ?_
 · unfold letheref05_Three_l0; dsimp only
   rw [if_pos hi]
   refine ⟨by omega, ?_⟩
   congr 2
   funext q
   rw [upd_at]
   by_cases hq : q = i
   · subst hq; rw [if_pos rfl, if_pos (by omega)]
   · rw [if_neg hq]
     by_cases h2 : q < i
     · rw [if_pos h2, if_pos (by omega)]
     · rw [if_neg h2, if_neg (by omega)]
 · unfold letheref05_Three_l0; dsimp only; rw [if_neg (by omega)]
theorem len8_div {n j : Nat} (hj : j < 8) (hn : n < 18446744073709551616) : len8 n (7 - j) = BitVec.ofNat 8 (n / 256 ^ j % 256) := by
 unfold len8
 apply BitVec.eq_of_toNat_eq
 have e : 56 - 8 * (7 - j) = 8 * j := by omega
 have e2 : 256 ^ j = 2 ^ (8 * j) := by rw [Nat.pow_mul]
 rw [BitVec.toNat_setWidth, BitVec.toNat_ushiftRight, Nat.shiftRight_eq_div_pow, BitVec.toNat_ofNat, BitVec.toNat_ofNat, e, e2, Nat.mod_eq_of_lt (show n < 2 ^ 64 by omega), Nat.mod_mod]
def lenB (n j : Nat) : List Byte := (List.range 8).map fun i => if 8 - j ≤ i then len8 n i else 0#8
theorem lenB_length (n j : Nat) : (lenB n j).length = 8 := by unfold lenB; rw [List.length_map, List.length_range]
theorem lenB_at (n j : Nat) {q : Nat} (h : q < 8) : lit (lenB n j) q = if 8 - j ≤ q then len8 n q else 0#8 := lit_range (n := 8) (fun i => if 8 - j ≤ i then len8 n i else 0#8) q h
theorem lenB_succ (n : Nat) {j : Nat} (h : j < 8) : (lenB n j).set (7 - j) (len8 n (7 - j)) = lenB n (j + 1) := by
 refine lext (by rw [List.length_set, lenB_length, lenB_length]) fun q hq => ?_
 rw [List.length_set, lenB_length] at hq
 rw [lit_set (by rw [lenB_length]; omega), lenB_at _ _ hq, lenB_at _ _ hq]
 by_cases h1 : q = 7 - j
 · subst h1; rw [if_pos rfl, if_pos (by omega)]
 · rw [if_neg h1]
   by_cases h2 : 8 - j ≤ q
   · rw [if_pos h2, if_pos (by omega)]
   · rw [if_neg h2, if_neg (by omega)]
theorem reftag_ok {k2 data c : List Byte} (hk : k2.length ≤ 1000000) (hd : data.length ≤ 1000000) (hc : c.length ≤ 1000000) : letheref05_Tag k2 data c (tagF k2 data c) := by
 have e8 : lenB data.length 8 = len8L data.length := by
   unfold lenB len8L
   refine List.map_congr_left fun i _ => ?_
   rw [if_pos (by omega)]
 have e0 : List.replicate 8 0#8 = lenB data.length 0 := by
   refine lext (by rw [List.length_replicate, lenB_length]) fun q hq => ?_
   rw [List.length_replicate] at hq
   rw [lenB_at _ _ hq, if_neg (by omega)]
   unfold lit
   rw [List.getD_eq_getElem?_getD, List.getElem?_replicate, if_pos hq]; rfl
 have hl8 : (len8L data.length).length = 8 := by unfold len8L; rw [List.length_map, List.length_range]
 have j := joined_ok (P := [data, c, len8L data.length]) (by simp) (by simp only [List.flatten_cons, List.flatten_nil, List.append_nil, List.length_append]; omega)
 have m := refmac_ok (K := k2) (T := [data, c, len8L data.length].flatten) (by omega) (by simp only [List.flatten_cons, List.flatten_nil, List.append_nil, List.length_append]; omega)
 refine ⟨len8L data.length, ?_, _, j, _, m, ?_⟩
 · have e9 : data.length = data.length / 256 ^ 0 := by rw [Nat.pow_zero, Nat.div_one]
   rw [e0, ← e8]
   conv => arg 2; rw [e9]
   refine Iter.count (fun j => (lenB data.length j, data.length / 256 ^ j, (7 : Int) - j)) 8 (fun j hj => ?_) ?_
   · unfold letheref05_Tag_l0; dsimp only
     have hdl := Nat.div_le_self data.length (256 ^ j)
     have e1 : ((7 : Int) - j).toNat = 7 - j := by omega
     have e3 : (7 : Int) - ((j + 1 : Nat) : Int) = 7 - (j : Int) - 1 := by omega
     rw [if_pos (by omega), e1, e3, List.length_replicate, ← len8_div hj (by omega), lenB_succ _ hj, Nat.div_div_eq_div_mul, ← Nat.pow_succ]
     exact ⟨by omega, by omega, by omega, rfl⟩
   · unfold letheref05_Tag_l0; dsimp only; rw [if_neg (by omega)]
 · unfold tagF
   simp only [List.flatten_cons, List.flatten_nil, List.append_nil]
theorem k1_len (key : Nat → Byte) : (seg (skey key) 0 32).length = 32 := by rw [seg_length (by rw [skey_length]; omega)]
theorem refseal_ok {key : Nat → Byte} {data text : List Byte} (ht : text.length ≤ 512) (hd : data.length ≤ 65535) : letheref05_Seal key data text (sealF key data text, 0) := by
 unfold letheref05_Seal
 rw [if_neg (by omega), if_neg (by omega)]
 obtain ⟨W, x, u, hn, hr⟩ := refnew_ok (k1_len key)
 have hh := refhide_ok hr (ivF key) (data := text) (by omega)
 have hl := encS_length key text
 have ht2 := tagF_length (k2F key) data (encS key text)
 have j := joined_ok (P := [encS key text, tagF (k2F key) data (encS key text)]) (by simp) (by simp only [List.flatten_cons, List.flatten_nil, List.append_nil, List.length_append]; omega)
 refine ⟨_, _, _, refthree_ok key, .inr ⟨W, x, u, hn, encS key text, hh, _, reftag_ok (by rw [k2F_length]; decide) (by omega) (by omega), _, j, ?_⟩⟩
 simp only [List.flatten_cons, List.flatten_nil, List.append_nil]
 rfl
theorem refseal_no {key : Nat → Byte} {data text : List Byte} (h : 512 < text.length ∨ 65535 < data.length) : letheref05_Seal key data text ([], 5) := by
 unfold letheref05_Seal
 by_cases h1 : 512 < text.length
 · rw [if_pos h1]
 · rw [if_neg h1, if_pos (h.resolve_left h1)]
theorem refopen_short {key : Nat → Byte} {data s : List Byte} (h : s.length < 32) : letheref05_Open key data s ([], 10) := by
 refine ⟨by omega, ?_⟩
 rw [if_pos (by omega)]
theorem refopen_no {key : Nat → Byte} {data s : List Byte} (h0 : 32 ≤ s.length) (hs : s.length < 9223372036854775808) (h : 544 < s.length ∨ 65535 < data.length) : letheref05_Open key data s ([], 5) := by
 refine ⟨by omega, ?_⟩
 rw [if_neg (by omega)]
 by_cases h1 : 544 < s.length
 · rw [if_pos (by omega)]
 · rw [if_neg (by omega), if_pos (h.resolve_left h1)]
theorem refopen_ok {key : Nat → Byte} {data s : List Byte} (h0 : 32 ≤ s.length) (h1 : s.length ≤ 544) (hd : data.length ≤ 65535) : letheref05_Open key data s (openF key data s) := by
 refine ⟨by omega, ?_⟩
 have e : ((s.length : Int) - 32).toNat = s.length - 32 := by omega
 have hsl : (seg s 0 (s.length - 32)).length = s.length - 32 := by rw [seg_length (by omega)]; omega
 rw [if_neg (by omega), if_neg (by omega), if_neg (by omega), e]
 refine ⟨_, _, _, refthree_ok key, by omega, by omega, by omega, by omega, _, reftag_ok (by rw [k2F_length]; decide) (by omega) (by omega), ?_⟩
 unfold openF
 by_cases hc : seg s (s.length - 32) s.length = tagF (k2F key) data (seg s 0 (s.length - 32))
 · rw [if_pos hc.symm, if_pos hc]
   obtain ⟨W, x, u, hn, hr⟩ := refnew_ok (k1_len key)
   have hh := refhide_ok hr (ivF key) (data := seg s 0 (s.length - 32)) (by omega)
   exact ⟨by omega, by omega, .inr ⟨W, x, u, hn, _, hh, rfl⟩⟩
 · rw [if_neg (fun h => hc h.symm), if_neg hc]
theorem reflength_ok (n : Int) : letheref05_Length n (if 0 ≤ n ∧ n ≤ 512 then n + 32 else 0) := by
 unfold letheref05_Length
 by_cases h0 : n < 0
 · rw [if_pos h0, if_neg (by omega)]
 · by_cases h1 : 512 < n
   · rw [if_neg h0, if_pos h1, if_neg (by omega)]
   · rw [if_neg h0, if_neg h1, if_pos (by omega)]
end Go.Proofs.YthjkmhdgenmnoaaDoor
