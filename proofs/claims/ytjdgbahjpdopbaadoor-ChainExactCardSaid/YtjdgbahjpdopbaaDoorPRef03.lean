/-
  PLAIN (own work): the document's HMAC, Extract, Expand, Derive and chain are the code's.
-/
import Derived.Test.YtjdgbahjpdopbaaDoorPRef02b
import Derived.Test.YtjdgbahjpdopbaaDoorPKdf
import Derived.Test.YtjdgbahjpdopbaaDoorPChain
import Derived.Test.YtjdgbahjpdopbaaDoorRRef13
namespace Go.Proofs.YtjdgbahjpdopbaaDoor
set_option linter.unusedSimpArgs false
set_option linter.unusedVariables false
set_option linter.unusedSectionVars false
open Go Go.LW

/-- bits that differ, summed up -/
def nb (k : Nat) (x : Int) : Nat → Nat
  | 0 => 0
  | i + 1 => if (((k / 2 ^ i % 2 : Nat)) : Int) ≠ (x.tdiv ((2 ^ i : Nat) : Int)).tmod 2 then nb k x i + 2 ^ i else nb k x i
theorem nb_all : ∀ k : Fin 256, BitVec.ofNat 8 (nb k.val 54 8) = BitVec.ofNat 8 k.val ^^^ 54#8 ∧ BitVec.ofNat 8 (nb k.val 92 8) = BitVec.ofNat 8 k.val ^^^ 92#8 := by decide +kernel
theorem nb_le (k : Nat) (x : Int) : ∀ i, nb k x i < 2 ^ i
  | 0 => by show 0 < 1; decide
  | i + 1 => by
    have := nb_le k x i
    unfold nb
    rw [Nat.pow_succ]
    split <;> omega
theorem nb_byte (b : Byte) {x : Int} (hx : x = 54 ∨ x = 92) : BitVec.ofNat 8 (nb b.toNat x 8) = b ^^^ BitVec.ofInt 8 x := by
  have h := nb_all ⟨b.toNat, b.isLt⟩
  have e : BitVec.ofNat 8 b.toNat = b := by simp
  dsimp only at h
  rw [e] at h
  rcases hx with rfl | rfl
  · exact h.1
  · exact h.2
theorem bit_bd {i : Nat} (hi : i < 8) {x : Int} (hx : x = 54 ∨ x = 92) : 0 < 2 ^ i ∧ (2 ^ i : Nat) < 256 ∧ (((2 ^ i : Nat)) : Int) ≠ 0 ∧ -9223372036854775808 ≤ x.tdiv ((2 ^ i : Nat) : Int) ∧ x.tdiv ((2 ^ i : Nat) : Int) ≤ 9223372036854775807 := by
  have h : ∀ i : Fin 8, ∀ x ∈ [(54 : Int), 92], 0 < 2 ^ i.val ∧ (2 ^ i.val : Nat) < 256 ∧ (((2 ^ i.val : Nat)) : Int) ≠ 0 ∧ -9223372036854775808 ≤ x.tdiv ((2 ^ i.val : Nat) : Int) ∧ x.tdiv ((2 ^ i.val : Nat) : Int) ≤ 9223372036854775807 := by decide +kernel
  exact h ⟨i, hi⟩ x (by rcases hx with rfl | rfl <;> simp)
/-- the key, turned up to i -/
def trn (K : List Byte) (x : Byte) (i : Nat) : List Byte := dl 64 fun q => if q < i then lit K q ^^^ x else 0#8
theorem trn_set (K : List Byte) (x : Byte) {i : Nat} (hi : i < 64) : (trn K x i).set i (lit K i ^^^ x) = trn K x (i + 1) := by
  have hl : (trn K x i).length = 64 := dl_length _ _
  refine lext (by rw [List.length_set, hl]; exact (dl_length _ _).symm) fun q hq => ?_
  rw [List.length_set, hl] at hq
  have e : ∀ v, lit ((trn K x i).set i v) q = if q = i then v else lit (trn K x i) q := fun v => by
    unfold lit
    rw [List.getD_eq_getElem?_getD, List.getD_eq_getElem?_getD, List.getElem?_set]
    by_cases h : q = i
    · subst h; rw [if_pos rfl, if_pos rfl, if_pos (by omega)]; rfl
    · rw [if_neg (fun h2 => h h2.symm), if_neg h]
  rw [e]
  unfold trn
  rw [lit_dl _ hq, lit_dl _ hq]
  by_cases h : q = i
  · subst h; rw [if_pos rfl, if_pos (by omega)]
  · rw [if_neg h]
    by_cases h2 : q < i
    · rw [if_pos h2, if_pos (by omega)]
    · rw [if_neg h2, if_neg (by omega)]
theorem trn_zero (K : List Byte) (x : Byte) : List.replicate 64 0#8 = trn K x 0 := by
  refine lext (by rw [List.length_replicate]; exact (dl_length _ _).symm) fun q hq => ?_
  rw [List.length_replicate] at hq
  unfold trn
  rw [lit_dl _ hq, if_neg (by omega)]
  unfold lit
  rw [List.getD_eq_getElem?_getD, List.getElem?_replicate, if_pos hq]; rfl
theorem trn_all (K : List Byte) (x : Byte) : trn K x 64 = dl 64 fun q => lit K q ^^^ x := dl_congr fun q hq => if_pos hq
theorem turned_ok {X : List Byte} (hX : X.length < 70368744177664) {x : Int} (hx : x = 54 ∨ x = 92) : letheref03_turned X x (padK X (BitVec.ofInt 8 x)) := by
  unfold letheref03_turned
  by_cases h : 64 < X.length
  · rw [if_pos h]
    have eP : padK X (BitVec.ofInt 8 x) = trn (dl 32 (shaL X)) (BitVec.ofInt 8 x) 64 := by
      rw [trn_all]; unfold padK keyK; rw [if_pos h]
    generalize hK : dl 32 (shaL X) = K at eP
    have hKl : K.length = 32 := by rw [← hK]; exact dl_length _ _
    refine ⟨_, refsum_ok hX, _, ?_, rfl⟩
    rw [eP, trn_zero K (BitVec.ofInt 8 x), hK]
    refine Iter.count (fun i => (K, trn K (BitVec.ofInt 8 x) i, i)) 64 (fun i hi => ?_) ?_
    · unfold letheref03_turned_l0; dsimp only
      rw [if_pos hi]
      refine ⟨K, trn K (BitVec.ofInt 8 x) i, (lit K i).toNat, ?_, K, trn K (BitVec.ofInt 8 x) i, nb (lit K i).toNat x 8, ?_, by rw [List.length_replicate]; exact hi, ?_⟩
      · by_cases h2 : i < 32
        · rw [if_pos h2]; exact ⟨h2, rfl, rfl, rfl⟩
        · rw [if_neg h2]; exact ⟨rfl, rfl, by rw [lit_out (by omega)]; rfl⟩
      · refine Iter.count (fun j => (K, trn K (BitVec.ofInt 8 x) i, nb (lit K i).toNat x j, 2 ^ j)) 8 (fun j hj => ?_) ?_
        · unfold letheref03_turned_l1; dsimp only
          have hb := bit_bd hj hx
          have hk := (lit K i).isLt
          have hn := nb_le (lit K i).toNat x j
          rw [if_pos hb.2.1]
          refine ⟨hb.1, by omega, hb.2.2.1, ⟨hb.2.2.2.1, hb.2.2.2.2⟩, ?_⟩
          rw [nb]
          by_cases hc : ((((lit K i).toNat / 2 ^ j % 2 : Nat)) : Int) ≠ (x.tdiv ((2 ^ j : Nat) : Int)).tmod 2
          · rw [if_pos hc, if_pos hc]; exact ⟨by omega, rfl⟩
          · rw [if_neg hc, if_neg hc]; rfl
        · unfold letheref03_turned_l1; dsimp only; rw [if_neg (by decide)]
      · rw [nb_byte _ hx, trn_set K _ hi]
    · unfold letheref03_turned_l0; dsimp only; rw [if_neg (by omega)]
  · rw [if_neg h]
    have eP : padK X (BitVec.ofInt 8 x) = trn X (BitVec.ofInt 8 x) 64 := by
      rw [trn_all]; unfold padK keyK; rw [if_neg h]
    refine ⟨_, ?_, rfl⟩
    rw [eP, trn_zero X (BitVec.ofInt 8 x)]
    refine Iter.count (fun i => (trn X (BitVec.ofInt 8 x) i, i)) 64 (fun i hi => ?_) ?_
    · unfold letheref03_turned_l2; dsimp only
      rw [if_pos hi]
      refine ⟨trn X (BitVec.ofInt 8 x) i, (lit X i).toNat, ?_, trn X (BitVec.ofInt 8 x) i, nb (lit X i).toNat x 8, ?_, by rw [List.length_replicate]; exact hi, ?_⟩
      · by_cases h2 : i < X.length
        · rw [if_pos h2]; exact ⟨h2, rfl, rfl⟩
        · rw [if_neg h2]; exact ⟨rfl, by rw [lit_out (by omega)]; rfl⟩
      · refine Iter.count (fun j => (trn X (BitVec.ofInt 8 x) i, nb (lit X i).toNat x j, 2 ^ j)) 8 (fun j hj => ?_) ?_
        · unfold letheref03_turned_l3; dsimp only
          have hb := bit_bd hj hx
          have hk := (lit X i).isLt
          have hn := nb_le (lit X i).toNat x j
          rw [if_pos hb.2.1]
          refine ⟨hb.1, by omega, hb.2.2.1, ⟨hb.2.2.2.1, hb.2.2.2.2⟩, ?_⟩
          rw [nb]
          by_cases hc : ((((lit X i).toNat / 2 ^ j % 2 : Nat)) : Int) ≠ (x.tdiv ((2 ^ j : Nat) : Int)).tmod 2
          · rw [if_pos hc, if_pos hc]; exact ⟨by omega, rfl⟩
          · rw [if_neg hc, if_neg hc]; rfl
        · unfold letheref03_turned_l3; dsimp only; rw [if_neg (by decide)]
      · rw [nb_byte _ hx, trn_set X _ hi]
    · unfold letheref03_turned_l2; dsimp only; rw [if_neg (by omega)]
theorem joined_ok {P : List (List Byte)} (hp : P.length < 9223372036854775807) (hl : P.flatten.length ≤ 140737488355328) : letheref03_Joined P P.flatten := by
  refine ⟨_, ?_, rfl⟩
  have key : Iter (letheref03_Joined_l0 P) ((P.take 0).flatten, 0) (P.take P.length).flatten :=
    Iter.count (fun i => ((P.take i).flatten, i)) P.length (fun i hi => by
      unfold letheref03_Joined_l0; dsimp only
      have h1 := flatten_take hi
      have h2 := flatten_len P (i + 1)
      rw [h1, List.length_append] at h2
      rw [if_pos hi, h1]
      exact ⟨hi, by omega, by omega, rfl⟩) (by
      unfold letheref03_Joined_l0; dsimp only; rw [if_neg (by omega)])
  rw [List.take_length] at key
  exact key
theorem refmac_ok {K T : List Byte} (hk : K.length < 70368744177664) (ht : T.length < 1000000000) : letheref03_Mac K T (macL K T) := by
  have l1 := padK_length K 54#8
  have l2 := padK_length K 92#8
  have j1 := joined_ok (P := [padK K 54#8, T]) (by simp) (by simp only [List.flatten_cons, List.flatten_nil, List.append_nil, List.length_append]; omega)
  have j2 := joined_ok (P := [padK K 92#8, dl 32 (shaL (padK K 54#8 ++ T))]) (by simp) (by simp only [List.flatten_cons, List.flatten_nil, List.append_nil, List.length_append, dl_length]; omega)
  simp only [List.flatten_cons, List.flatten_nil, List.append_nil] at j1 j2
  exact ⟨_, turned_ok hk (.inl rfl), _, j1, _, refsum_ok (by rw [List.length_append]; omega), _, turned_ok hk (.inr rfl), _, j2, _, refsum_ok (by rw [List.length_append, dl_length]; omega), rfl⟩
theorem refexpand_ok {prk info : List Byte} {n : Nat} (hp : prk.length < 70368744177664) (hi : info.length < 1000000) (hn : n ≤ 8160) :
    letheref03_Expand prk info (n : Int) (.inr (expL prk info n, 0)) := by
  unfold letheref03_Expand
  rw [if_neg (by omega), if_neg (by omega)]
  refine ⟨expO prk info ((n + 31) / 32), ?_, by omega, by rw [expO_length]; omega, rfl⟩
  refine Iter.count (fun i => (expO prk info i, expT prk info i, i + 1)) ((n + 31) / 32) (fun i hi2 => ?_) ?_
  · unfold letheref03_Expand_l0; dsimp only
    have hl := expO_length prk info i
    have hl2 := expT_le prk info i
    rw [if_pos (by omega)]
    have j := joined_ok (P := [expT prk info i, info, [BitVec.ofNat 8 (i + 1)]]) (by simp) (by simp only [List.flatten_cons, List.flatten_nil, List.append_nil, List.length_append, List.length_singleton]; omega)
    simp only [List.flatten_cons, List.flatten_nil, List.append_nil] at j
    exact ⟨_, j, _, refmac_ok hp (by simp only [List.length_append, List.length_singleton]; omega), by omega, by omega, rfl⟩
  · unfold letheref03_Expand_l0; dsimp only
    have hl := expO_length prk info ((n + 31) / 32)
    rw [if_neg (by omega)]
theorem refderive_ok {salt key info : List Byte} {n : Nat} (hs : salt.length < 70368744177664) (hk : key.length < 1000000000) (hi : info.length < 1000000) (hn : n ≤ 8160) :
    letheref03_Derive salt key info (n : Int) (.inr (expL (dl 32 (macL salt key)) info n, 0)) :=
  ⟨_, ⟨_, refmac_ok hs hk, rfl⟩, .inr ⟨_, _, refexpand_ok (by rw [dl_length]; decide) hi hn, rfl⟩⟩

/-! ### the chain -/
theorem key_ok {b : List Byte} {i : Nat} (h : i + 32 ≤ b.length) (hb : b.length < 1000000) : letheref13_key b (i : Int) (upto 0#8 (fun q => lit b (i + q)) 32) := by
  refine ⟨_, ?_, rfl⟩
  have key : Iter (letheref13_key_l0 b (i : Int)) (0, upto 0#8 (fun q => lit b (i + q)) 0) (upto 0#8 (fun q => lit b (i + q)) 32) :=
    Iter.count (fun k => (k, upto 0#8 (fun q => lit b (i + q)) k)) 32 (fun k hk => by
      unfold letheref13_key_l0; dsimp only
      rw [if_pos hk, show ((i : Int) + (k : Int)).toNat = i + k by omega, ← upto_succ]
      exact ⟨by omega, by omega, rfl⟩) (by
      unfold letheref13_key_l0; dsimp only; rw [if_neg (by omega)])
  rwa [upto_zero] at key
def nxR (k : Nat → Byte) : Nat → Byte := upto 0#8 (fun q => lit (dl 32 (nxC k)) (0 + q)) 32
def msR (k : Nat → Byte) : Nat → Byte := upto 0#8 (fun q => lit (dl 32 (msC k)) (0 + q)) 32
theorem macL_out (X Z : List Byte) (q : Nat) (h : 32 ≤ q) : macL X Z q = 0#8 := by
  unfold macL shaL
  rw [dgb_upto]; unfold upto; rw [if_neg (by omega)]
theorem upto_dl {f : Nat → Byte} (h : ∀ q, 32 ≤ q → f q = 0#8) : upto 0#8 (fun q => lit (dl 32 f) (0 + q)) 32 = f := by
  funext q; unfold upto
  by_cases hq : q < 32
  · rw [if_pos hq]; dsimp only; rw [Nat.zero_add, lit_dl _ hq]
  · rw [if_neg hq, h q (by omega)]
theorem refstep_ok (k : Nat → Byte) : letheref13_Step k (nxC k, msC k) := by
  have h1 := key_ok (b := dl 32 (nxC k)) (i := 0) (by rw [dl_length]; decide) (by rw [dl_length]; decide)
  have h2 := key_ok (b := dl 32 (msC k)) (i := 0) (by rw [dl_length]; decide) (by rw [dl_length]; decide)
  rw [upto_dl (f := nxC k) fun q hq => macL_out _ _ q hq] at h1
  rw [upto_dl (f := msC k) fun q hq => macL_out _ _ q hq] at h2
  exact ⟨_, refmac_ok (by rw [dl_length]; decide) (by simp), _, refmac_ok (by rw [dl_length]; decide) (by simp), _, h1, _, h2, rfl⟩
theorem refahead_ok (k : Nat → Byte) {n : Nat} (hn : n ≤ 256) : letheref13_Ahead k (n : Int) (aftC k n, msgs k n, 0) := by
  unfold letheref13_Ahead
  rw [if_neg (by omega), if_neg (by omega)]
  refine ⟨msgs k n, aftC k n, ?_, rfl⟩
  refine Iter.count (fun i => (msgs k i, i, aftC k i)) n (fun i hi => ?_) ?_
  · unfold letheref13_Ahead_l0
    dsimp only
    have hl := msgs_length k i
    rw [if_pos (by omega)]
    refine ⟨_, _, refstep_ok _, ?_, rfl⟩
    rw [hl, List.length_singleton]; omega
  · unfold letheref13_Ahead_l0
    dsimp only
    rw [if_neg (by omega)]
theorem refroot_ok (r s : Nat → Byte) : letheref13_Root r s (rtC r s, chC r s) := by
  have hl := rootB_length r s
  refine .inr ⟨rootB r s, 0, ?_, _, key_ok (i := 0) (by omega) (by omega), _, key_ok (i := 32) (by omega) (by omega), ?_⟩
  · exact refderive_ok (n := 64) (by rw [dl_length]; decide) (by rw [dl_length]; decide) (by rw [dl_length]; decide) (by decide)
  · have e1 : rtC r s = upto 0#8 (fun q => lit (rootB r s) (0 + q)) 32 := by
      funext q; unfold rtC upto
      by_cases h : q < 32
      · rw [if_pos h, spl_in _ _ _ _ _ (by omega)]; dsimp only; rw [Nat.zero_add]; rfl
      · rw [if_neg h, spl_out _ _ _ _ _ (by omega)]
    have e2 : chC r s = upto 0#8 (fun q => lit (rootB r s) (32 + q)) 32 := by
      funext q; unfold chC upto
      by_cases h : q < 32
      · rw [if_pos h, spl_in _ _ _ _ _ (by omega), lit_seg (by omega) (by omega)]; rfl
      · rw [if_neg h, spl_out _ _ _ _ _ (by omega)]
    rw [e1, e2]
end Go.Proofs.YtjdgbahjpdopbaaDoor
