/-
  PLAIN (own work): what kdf's functions compute, as functions of lists of bytes.
-/
import Derived.Test.YtjdgbahjpdopbaaDoorPSha
import Derived.Test.YtjdgbahjpdopbaaDoorRKdf
namespace Go.Proofs.YtjdgbahjpdopbaaDoor
set_option linter.unusedSimpArgs false
set_option linter.unusedVariables false
set_option linter.unusedSectionVars false
open Go Go.LW
set_option linter.unusedVariables false

def keyK (X : List Byte) : List Byte := if 64 < X.length then dl 32 (shaL X) else X
def padK (X : List Byte) (x : Byte) : List Byte := dl 64 fun q => lit (keyK X) q ^^^ x
def macL (X Z : List Byte) : Nat → Byte := shaL (padK X 92#8 ++ dl 32 (shaL (padK X 54#8 ++ Z)))
theorem padK_length (X : List Byte) (x : Byte) : (padK X x).length = 64 := dl_length _ _
theorem lit_out {X : List Byte} {q : Nat} (h : X.length ≤ q) : lit X q = 0#8 := by unfold lit; simp [List.getD, h]
def xorN (f : Nat → Byte) (x : Byte) (t : Nat) : Nat → Byte := fun q => if q < t then f q ^^^ x else f q
theorem xorN_succ (f : Nat → Byte) (x : Byte) (t : Nat) : upd (xorN f x t) t (xorN f x t t ^^^ x) = xorN f x (t + 1) := by
  funext q
  rw [upd_at]
  unfold xorN
  by_cases h : q = t
  · subst h; rw [if_pos rfl, if_neg (by omega), if_pos (by omega)]
  · rw [if_neg h]
    by_cases h2 : q < t
    · rw [if_pos h2, if_pos (by omega)]
    · rw [if_neg h2, if_neg (by omega)]
theorem pad_at (K : List Byte) (x : Byte) {c : Nat} (hc : c = K.length) : ∀ q, q < 64 → xorN (spl (fun _ => 0#8) 0 c (lit K)) x 64 q = lit K q ^^^ x := fun q hq => by
  subst hc
  unfold xorN
  rw [if_pos hq]
  by_cases h : q < K.length
  · rw [spl_in _ _ _ _ _ (by omega), Nat.sub_zero]
  · rw [spl_out _ _ _ _ _ (by omega), lit_out (by omega)]
theorem padded_ok {X : List Byte} (hl : X.length < 2305843009213693952) (x : Byte) : kdf_padded X x (padK X x) := by
  unfold kdf_padded
  by_cases h : 64 < X.length
  · rw [if_pos h]
    refine ⟨_, sum_ok (by simp) (by simpa using hl), xorN (spl (fun _ => 0#8) 0 32 (lit (dl 32 (shaL X)))) x 64, ?_, ?_⟩
    · simp only [List.flatten_cons, List.flatten_nil, List.append_nil]
      refine Iter.count (fun i => (i, xorN (spl (fun _ => 0#8) 0 32 (lit (dl 32 (shaL X)))) x i)) 64 (fun i hi => ?_) ?_
      · unfold kdf_padded_l0; dsimp only; rw [if_pos hi, xorN_succ]
      · unfold kdf_padded_l0; dsimp only; rw [if_neg (by omega)]
    · unfold padK keyK
      rw [if_pos h]
      exact (dl_congr (pad_at _ x (dl_length _ _).symm)).symm
  · rw [if_neg h]
    refine ⟨xorN (spl (fun _ => 0#8) 0 (min X.length 64) (lit X)) x 64, ?_, ?_⟩
    · refine Iter.count (fun i => (i, xorN (spl (fun _ => 0#8) 0 (min X.length 64) (lit X)) x i)) 64 (fun i hi => ?_) ?_
      · unfold kdf_padded_l1; dsimp only; rw [if_pos hi, xorN_succ]
      · unfold kdf_padded_l1; dsimp only; rw [if_neg (by omega)]
    · unfold padK keyK
      rw [if_neg h]
      exact (dl_congr (pad_at _ x (by omega))).symm
theorem mac_ok {X : List Byte} {P : List (List Byte)} (hx : X.length < 2305843009213693952) (hp : P.length < 4611686018427387904) (hl : P.flatten.length < 1152921504606846976) : kdf_Mac X P (macL X P.flatten) := by
  have hpad := padded_ok hx 54#8
  have hpl := padK_length X 54#8
  unfold macL
  generalize padK X 54#8 = K at hpad hpl ⊢
  obtain ⟨s1, b1, w1, h1⟩ := write_ok (Y := K) Hold.nil (by rw [hpl]; decide)
  rw [List.nil_append] at w1 h1
  refine ⟨_, _, _, rfl, _, hpad, _, _, _, w1, ?_⟩
  obtain ⟨⟨s2, b2, n2⟩, hI, hn, h2⟩ := iter_go (step := kdf_Mac_l0 P)
    (fun s : Nat × (Nat → BitVec 32) × (Nat → BitVec 8) × Int => s.1 ≤ P.length ∧ Hold (K ++ (P.take s.1).flatten) s.2.1 s.2.2.1 ∧ s.2.2.2 = ((K ++ (P.take s.1).flatten).length : Int))
    (fun x : (Nat → BitVec 32) × (Nat → BitVec 8) × Int => x.2.2 = ((K ++ P.flatten).length : Int) ∧ Hold (K ++ P.flatten) x.1 x.2.1) (fun s => P.length - s.1) (by
    rintro ⟨t, st, blk, n⟩ ⟨ht, hH, hn⟩
    dsimp only at ht hH hn ⊢
    subst hn
    unfold kdf_Mac_l0
    dsimp only
    by_cases hw : t < P.length
    · have hf := flatten_take hw
      have hfl := flatten_len P (t + 1)
      rw [hf, List.length_append] at hfl
      obtain ⟨s3, b3, w3, h3⟩ := write_ok (Y := P.getD t []) hH (by rw [List.length_append, hpl]; omega)
      rw [List.append_assoc, ← hf] at w3 h3
      exact .inr ⟨_, by rw [if_pos hw]; exact ⟨hw, _, _, _, w3, by omega, rfl⟩, ⟨by dsimp only; omega, h3, rfl⟩, by dsimp only; omega⟩
    · refine .inl ⟨_, by rw [if_neg hw], ?_⟩
      obtain rfl : t = P.length := by omega
      rw [List.take_length] at hH ⊢
      exact ⟨rfl, hH⟩) (P.length + 1) (0, s1, b1, ((K).length : Int)) (by dsimp only; omega) ⟨Nat.zero_le _, by dsimp only; rw [List.take_zero, List.flatten_nil, List.append_nil]; exact h1, by dsimp only; rw [List.take_zero, List.flatten_nil, List.append_nil]⟩
  dsimp only at hn h2
  subst hn
  refine ⟨_, _, _, hI, _, sumdig_ok h2 (by rw [List.length_append, hpl]; omega), _, padded_ok hx _, _, sum_ok (by simp) (by simp only [List.flatten_cons, List.flatten_nil, List.append_nil, List.length_append, padK_length, dl_length]; decide), ?_⟩
  simp only [List.flatten_cons, List.flatten_nil, List.append_nil]
theorem extract_ok {X Z : List Byte} (hx : X.length < 2305843009213693952) (hl : Z.length < 1152921504606846976) : kdf_Extract X Z (macL X Z) := by
  have := mac_ok (P := [Z]) hx (by simp) (by simpa using hl)
  simp only [List.flatten_cons, List.flatten_nil, List.append_nil] at this
  exact ⟨_, this, rfl⟩

/-! ### Expand -/
def expT (prk info : List Byte) : Nat → List Byte
  | 0 => []
  | i + 1 => dl 32 (macL prk (expT prk info i ++ (info ++ [BitVec.ofNat 8 (i + 1)])))
def expO (prk info : List Byte) : Nat → List Byte
  | 0 => []
  | i + 1 => expO prk info i ++ expT prk info (i + 1)
theorem expT_length (prk info : List Byte) : ∀ i, (expT prk info (i + 1)).length = 32 := fun i => dl_length _ _
theorem expT_le (prk info : List Byte) : ∀ i, (expT prk info i).length ≤ 32
  | 0 => Nat.zero_le _
  | i + 1 => by rw [expT_length]; omega
theorem expO_length (prk info : List Byte) : ∀ i, (expO prk info i).length = 32 * i
  | 0 => rfl
  | i + 1 => by show (expO prk info i ++ expT prk info (i + 1)).length = _; rw [List.length_append, expO_length prk info i, expT_length]; omega
theorem expO_blk (prk info : List Byte) : ∀ m i, i < m → seg (expO prk info m) (32 * i) (32 * i + 32) = expT prk info (i + 1)
  | m + 1, i, h => by
    have hl := expO_length prk info m
    have ht := expT_length prk info m
    refine lext ?_ fun q hq => ?_
    · rw [seg_length (by rw [expO_length]; omega), expT_length]; omega
    · rw [seg_length (by rw [expO_length]; omega)] at hq
      rw [lit_seg (by rw [expO_length]; omega) hq]
      show lit (expO prk info m ++ expT prk info (m + 1)) _ = _
      rw [lit_app]
      by_cases hi : i < m
      · rw [if_pos (by omega), ← expO_blk prk info m i hi, lit_seg (by omega) hq]
      · obtain rfl : i = m := by omega
        rw [if_neg (by omega), hl]; congr 1; omega
theorem expO_beg (prk info : List Byte) {k : Nat} : ∀ m, k ≤ m → seg (expO prk info m) 0 (32 * k) = expO prk info k
  | 0, h => by obtain rfl : k = 0 := by omega
               rfl
  | m + 1, h => by
    by_cases hk : k = m + 1
    · subst hk; rw [← expO_length prk info (m + 1), seg_all]
    · have hl := expO_length prk info m
      refine Eq.trans ?_ (expO_beg prk info m (by omega))
      rw [seg_zero, seg_zero]
      show (expO prk info m ++ expT prk info (m + 1)).take _ = _
      rw [List.take_append_of_le_length (by omega)]
def expL (prk info : List Byte) (n : Nat) : List Byte := seg (expO prk info ((n + 31) / 32)) 0 n
theorem expL_length (prk info : List Byte) (n : Nat) : (expL prk info n).length = n := by
  unfold expL; rw [seg_length (by rw [expO_length]; omega)]; omega
theorem expL_less (prk info : List Byte) {m n : Nat} (h : m ≤ n) : seg (expL prk info n) 0 m = expL prk info m := by
  unfold expL
  rw [← expO_beg prk info (k := (m + 31) / 32) ((n + 31) / 32) (by omega)]
  simp only [seg_zero, List.take_take]
  congr 1; omega
theorem expand_ok {prk info : List Byte} {n : Nat} (hp : prk.length < 2305843009213693952) (hi : info.length < 1000000) (hn : n ≤ 8160) :
    kdf_Expand prk info (n : Int) (expL prk info n, 0) := by
  unfold kdf_Expand
  rw [if_neg (by omega), if_neg (by omega)]
  refine ⟨by omega, by omega, expO prk info ((n + 31) / 32), ?_, by omega, by rw [expO_length]; omega, rfl⟩
  refine Iter.count (fun i => (expO prk info i, expT prk info i, i + 1)) ((n + 31) / 32) (fun i hi2 => ?_) ?_
  · unfold kdf_Expand_l0; dsimp only
    have hl := expO_length prk info i
    have hl2 := expT_le prk info i
    rw [if_pos (by omega)]
    refine ⟨_, mac_ok hp (by simp) (by simp only [List.flatten_cons, List.flatten_nil, List.append_nil, List.length_append, List.length_cons, List.length_nil]; omega), by omega, by omega, ?_⟩
    simp only [List.flatten_cons, List.flatten_nil, List.append_nil]
    rfl
  · unfold kdf_Expand_l0; dsimp only
    have hl := expO_length prk info ((n + 31) / 32)
    rw [if_neg (by omega)]
theorem derive_ok {salt key info : List Byte} {n : Nat} (hs : salt.length < 2305843009213693952) (hk : key.length < 1152921504606846976) (hi : info.length < 1000000) (hn : n ≤ 8160) :
    kdf_Derive salt key info (n : Int) (expL (dl 32 (macL salt key)) info n, 0) :=
  ⟨_, extract_ok hs hk, _, _, expand_ok (by rw [dl_length]; decide) hi hn, rfl⟩
end Go.Proofs.YtjdgbahjpdopbaaDoor
