/-
  PLAIN LAW OF AesExact (own work): every answer is the document's, and the book holds.
-/
import Derived.Test.YthjkmhdgenmnoaaPm
import Derived.Test.YthjkmhdgenmnoaaRAesExact
namespace Go.Proofs.Ythjkmhdgenmnoaa
set_option linter.unusedSimpArgs false
set_option linter.unusedVariables false
set_option linter.unusedSectionVars false
open Go Go.LW
set_option maxRecDepth 10000

theorem rb4 : reachBytes ≤ 140737488355000 := by decide +kernel
theorem room4 {X : List Byte} (h : X.length ≤ reachBytes) : lethelaw04_Room X (rooM X) := by
  have hb := rb4
  exact ⟨by omega, by simp only [List.nil_append, List.length_cons, List.length_nil]; omega, rfl⟩
theorem kept4 {X : List Byte} (h : X.length ≤ reachBytes) : lethelaw04_Kept (rooM X) X true := ⟨_, room4 h, true, (decide_eq_true rfl).symm, rfl⟩
theorem note4 {b : List (List Byte)} {n : Nat} (hb : b.length ≤ n) (hn : n ≤ 1000) {l : List Byte} (hl : l.length ≤ reachBytes) : ∃ b' : List (List Byte), b'.length ≤ n + 2 ∧ lethelaw04_Book_Note_at4 b b l (b', b') := by
  have hrb := rb4
  refine ⟨b ++ [_, _], by simp only [List.length_append, List.length_cons, List.length_nil]; omega, by omega, by omega, (List.range l.length).map fun i => BitVec.ofNat 8 (((b.length * 29) + 7) + i), _, ?_, by omega, by omega, ?_, ?_, ?_, ?_, rfl⟩
  · have key : Iter (lethelaw04_Book_Note_at4_l0 b l) (mkl (fun i => BitVec.ofNat 8 (((b.length * 29) + 7) + i)) l 0, (List.range 0).map fun i => BitVec.ofNat 8 (((b.length * 29) + 7) + i), 0) ((List.range l.length).map fun i => BitVec.ofNat 8 (((b.length * 29) + 7) + i), (List.range l.length).map fun i => BitVec.ofNat 8 (((b.length * 29) + 7) + i)) := by
      refine Iter.count (fun i => (mkl (fun i => BitVec.ofNat 8 (((b.length * 29) + 7) + i)) l i, (List.range i).map (fun i => BitVec.ofNat 8 (((b.length * 29) + 7) + i)), i)) l.length (fun i hi => ?_) ?_
      · unfold lethelaw04_Book_Note_at4_l0; dsimp only
        rw [if_pos hi, mkl_set (fun i => BitVec.ofNat 8 (((b.length * 29) + 7) + i)) l hi, mkl_lit _ l hi, map_snoc (fun i => BitVec.ofNat 8 (((b.length * 29) + 7) + i))]
        refine ⟨by omega, hi, hi, ?_, by omega, rfl⟩
        simp only [List.length_map, List.length_range, List.length_cons, List.length_nil]; omega
      · unfold lethelaw04_Book_Note_at4_l0; dsimp only
        rw [if_neg (by omega), mkl_all]
    exact key
  · simp only [List.length_cons, List.length_nil]; omega
  · simp only [List.length_cons, List.length_nil]; omega
  · simp only [List.length_cons, List.length_nil, List.length_map, List.length_range]; omega
  · simp only [List.length_cons, List.length_nil]; omega
theorem holds4 {b : List (List Byte)} {n : Nat} (hb : b.length ≤ n) (hn : n ≤ 1000) : lethelaw04_Book_Holds_at4 b b true := by
  refine ⟨some (), ?_, fun _ => rfl⟩
  refine Iter.count (fun i => i) b.length (fun i hi => ?_) ?_
  · unfold lethelaw04_Book_Holds_at4_l0
    rw [if_pos hi]
    exact ⟨hi, hi, true, (decide_eq_true rfl).symm, by rw [if_pos rfl]; exact ⟨by omega, rfl⟩⟩
  · unfold lethelaw04_Book_Holds_at4_l0; rw [if_neg (by omega)]
/-- a cipher beside the document's -/
def CI (k : F8) (W : List (Nat → Byte)) (x u : Nat → Byte) : Prop := ∃ key, E240 k (keyF key) ∧ RC key W x u
theorem enc_both {k : F8} {W : List (Nat → Byte)} {x u : Nat → Byte} (h : CI k W x u) (b : F8) : ∃ y z, aes_Cipher_Encrypt k boxF backF twoF b y ∧ letheref04_Cipher_Encrypt W x u b z ∧ eqB 16 y z = true := by
  obtain ⟨key, hk, hr⟩ := h
  obtain ⟨z, hz, he⟩ := refenc_ok hr b
  exact ⟨_, z, enc_ok _ _ _ _ _, hz, eqB_E.2 ((encF_k hk E16.rfl').trans he.symm)⟩
theorem dec_both {k : F8} {W : List (Nat → Byte)} {x u : Nat → Byte} (h : CI k W x u) (b : F8) : ∃ y z, aes_Cipher_Decrypt k boxF backF twoF b y ∧ letheref04_Cipher_Decrypt W x u b z ∧ eqB 16 y z = true := by
  obtain ⟨key, hk, hr⟩ := h
  obtain ⟨z, hz, he⟩ := refdec_ok hr b
  exact ⟨_, z, dec_ok _ _ _ _ _, hz, eqB_E.2 ((decF_k hk E16.rfl').trans he.symm)⟩
theorem str_both {k : F8} {W : List (Nat → Byte)} {x u : Nat → Byte} (h : CI k W x u) (first : F8) {text : List Byte} (ht : text.length ≤ reachBytes) : ∃ y, aes_Cipher_Stream k boxF backF twoF first text y ∧ letheref04_Cipher_Hide W x u first text y ∧ y.length = text.length := by
  obtain ⟨key, hk, hr⟩ := h
  have hrb := rb4
  have h2 := refhide_ok hr first (data := text) (by omega)
  rw [← strF_k hk] at h2
  exact ⟨_, str_ok _ _ _ _ _ (by omega), h2, strF_length _ _ _ _ _⟩
theorem new_both {key : List Byte} (hk : key.length = 32) : ∃ W x u, aes_New key (.inr (keyF key, boxF, backF, twoF, 0)) ∧ letheref04_New key (.inr (W, x, u)) ∧ CI (keyF key) W x u := by
  obtain ⟨W, x, u, hn, hr⟩ := refnew_ok hk
  exact ⟨W, x, u, new_ok hk, hn, key, fun _ _ => rfl, hr⟩
theorem wipe_both (k : F8) : ∃ k' W x u, aes_Cipher_Wipe k boxF backF twoF k' ∧ letheref04_New (List.replicate 32 0#8) (.inr (W, x, u)) ∧ CI k' W x u := by
  obtain ⟨W, x, u, hn, hr⟩ := refnew_ok (key := List.replicate 32 0#8) List.length_replicate
  exact ⟨_, W, x, u, ⟨_, exp_ok _ _ _ _ List.length_replicate, rfl⟩, hn, _, expF_E _ _ _ _, hr⟩
theorem over3 (X : List Byte) (hX : X.length < 9223372036854775807) : Iter (lethelaw04_AesExact_l3 X) (X, 0) () := by
  obtain ⟨u, h, _⟩ := iter_ga (step := lethelaw04_AesExact_l3 X) (fun s => s.2 ≤ X.length) (fun _ => True) (fun s => X.length - s.2) (by
    rintro ⟨m, i⟩ hi
    dsimp only at hi ⊢
    unfold lethelaw04_AesExact_l3; dsimp only
    by_cases h : i < X.length
    · exact .inr ⟨(m.set i 85#8, i + 1), by rw [if_pos h]; exact ⟨h, by omega, rfl⟩, by dsimp only; omega, by dsimp only; omega⟩
    · exact .inl ⟨(), by rw [if_neg h], trivial⟩) (X.length + 1) (X, 0) (by dsimp only; omega) (Nat.zero_le _)
  exact h
theorem over0 (X : List Byte) (hX : X.length < 9223372036854775807) : Iter (lethelaw04_AesExact_l0 X) (X, 0) () := by
  obtain ⟨u, h, _⟩ := iter_ga (step := lethelaw04_AesExact_l0 X) (fun s => s.2 ≤ X.length) (fun _ => True) (fun s => X.length - s.2) (by
    rintro ⟨m, i⟩ hi
    dsimp only at hi ⊢
    unfold lethelaw04_AesExact_l0; dsimp only
    by_cases h : i < X.length
    · exact .inr ⟨(m.set i 85#8, i + 1), by rw [if_pos h]; exact ⟨h, by omega, rfl⟩, by dsimp only; omega, by dsimp only; omega⟩
    · exact .inl ⟨(), by rw [if_neg h], trivial⟩) (X.length + 1) (X, 0) (by dsimp only; omega) (Nat.zero_le _)
  exact h
theorem over1 (X : List Byte) (hX : X.length < 9223372036854775807) : Iter (lethelaw04_AesExact_l1 X) (X, 0) () := by
  obtain ⟨u, h, _⟩ := iter_ga (step := lethelaw04_AesExact_l1 X) (fun s => s.2 ≤ X.length) (fun _ => True) (fun s => X.length - s.2) (by
    rintro ⟨m, i⟩ hi
    dsimp only at hi ⊢
    unfold lethelaw04_AesExact_l1; dsimp only
    by_cases h : i < X.length
    · exact .inr ⟨(m.set i 85#8, i + 1), by rw [if_pos h]; exact ⟨h, by omega, rfl⟩, by dsimp only; omega, by dsimp only; omega⟩
    · exact .inl ⟨(), by rw [if_neg h], trivial⟩) (X.length + 1) (X, 0) (by dsimp only; omega) (Nat.zero_le _)
  exact h
/-- what holds between two steps -/
abbrev ST := Nat × F8 × F8 × F8 × F8 × F8 × F8 × F8 × F8 × List (Nat → Byte) × (Nat → Byte) × (Nat → Byte) × List (Nat → Byte) × (Nat → Byte) × (Nat → Byte) × List (List Byte) × List (List Byte)
def Inv4 (k0 k1 : F8) (W0 : List (Nat → Byte)) (x0 u0 : Nat → Byte) (W1 : List (Nat → Byte)) (x1 u1 : Nat → Byte) (b : List (List Byte)) (n : Nat) : Prop := CI k0 W0 x0 u0 ∧ CI k1 W1 x1 u1 ∧ b.length ≤ 2 * n
theorem step4 {script : List (Int × Int × (BitVec 8) × (BitVec 8) × (BitVec 64) × (Nat → BitVec 8) × (List Byte))} (hQ : ∀ (j : Nat) x, script[j]? = some x → x.2.2.2.2.2.2.length ≤ reachBytes) {i : Nat} (h1 : i < script.length) (h2 : i < 40) {k0 k1 : F8} {W0 W1 : List (Nat → Byte)} {x0 u0 x1 u1 : Nat → Byte} {b : List (List Byte)} (c0 : CI k0 W0 x0 u0) (c1 : CI k1 W1 x1 u1) (hb : b.length ≤ 2 * i) :
    ∃ s' : ST, lethelaw04_AesExact_l2 script true (i, k0, boxF, backF, twoF, k1, boxF, backF, twoF, W0, x0, u0, W1, x1, u1, b, b) (.inl s') ∧ s'.1 = i + 1 ∧ ∃ k0 k1 W0 x0 u0 W1 x1 u1 b, s' = (i + 1, k0, boxF, backF, twoF, k1, boxF, backF, twoF, W0, x0, u0, W1, x1, u1, b, b) ∧ Inv4 k0 k1 W0 x0 u0 W1 x1 u1 b (i + 1) := by
  unfold lethelaw04_AesExact_l2
  dsimp only
  simp only [if_pos h1, if_pos h2]
  have hB := hQ i _ (getD_of h1 ((0 : Int), (0 : Int), 0#8, 0#8, 0#64, (fun _ => 0#8), ([] : List Byte)))
  generalize script.getD i ((0 : Int), (0 : Int), 0#8, 0#8, 0#64, (fun _ => 0#8), ([] : List Byte)) = o at hB
  obtain ⟨kind, which, X, Y, N, blk, B⟩ := o
  dsimp only at hB ⊢
  have hl := rooM_length B
  have hrb := rb4
  have hseg := rooM_seg B
  have hbb : b.length ≤ 2 * (i + 1) := by omega
  have hw : which % 2 = 0 ∨ which % 2 = 1 := by omega
  by_cases e1 : kind = 1
  ·
    refine ⟨(i + 1, k0, boxF, backF, twoF, k1, boxF, backF, twoF, W0, x0, u0, W1, x1, u1, b, b), ⟨h1, true, k0, boxF, backF, twoF, k1, boxF, backF, twoF, W0, x0, u0, W1, x1, u1, b, b, ⟨_, rfl, rooM B, room4 hB, ⟨by omega, by omega⟩, true, rooM B, true, W0, x0, u0, W1, x1, u1, b, b, k0, k1, ?_, fun _ => ?_⟩, ?_⟩, rfl, k0, k1, W0, x0, u0, W1, x1, u1, b, rfl, c0, c1, hbb⟩
    · rw [if_pos e1]
      refine ⟨_, mul_ok _ _, _, refmul_ok _ _, ?_⟩
      rw [if_pos rfl]
      refine ⟨_, box_ok _, _, refbox1_ok _, ?_⟩
      rw [if_pos rfl]
      exact ⟨_, unbox_ok _, _, refunbox_ok _, rfl, rfl, (decide_eq_true rfl).symm, rfl, rfl, rfl, rfl, rfl, rfl, rfl, rfl, rfl, rfl⟩
    · rw [if_pos rfl]
      exact ⟨true, kept4 hB, rfl, rfl, rfl, rfl, rfl, rfl, rfl, rfl, rfl, rfl, rfl, rfl, rfl, rfl, rfl, rfl, rfl⟩
    · rw [if_pos rfl]
      exact ⟨true, holds4 hbb (by omega), by rw [if_pos rfl]⟩
  ·
    by_cases e2 : kind = 2
    ·
      refine ⟨(i + 1, k0, boxF, backF, twoF, k1, boxF, backF, twoF, W0, x0, u0, W1, x1, u1, b, b), ⟨h1, true, k0, boxF, backF, twoF, k1, boxF, backF, twoF, W0, x0, u0, W1, x1, u1, b, b, ⟨_, rfl, rooM B, room4 hB, ⟨by omega, by omega⟩, true, rooM B, true, W0, x0, u0, W1, x1, u1, b, b, k0, k1, ?_, fun _ => ?_⟩, ?_⟩, rfl, k0, k1, W0, x0, u0, W1, x1, u1, b, rfl, c0, c1, hbb⟩
      · rw [if_neg e1, if_pos e2]
        exact ⟨_, next_ok _ _, _, refnext_ok _ _, rfl, rfl, (eqB_iff.2 fun _ _ => rfl).symm, rfl, rfl, rfl, rfl, rfl, rfl, rfl, rfl, rfl, rfl⟩
      · rw [if_pos rfl]
        exact ⟨true, kept4 hB, rfl, rfl, rfl, rfl, rfl, rfl, rfl, rfl, rfl, rfl, rfl, rfl, rfl, rfl, rfl, rfl, rfl⟩
      · rw [if_pos rfl]
        exact ⟨true, holds4 hbb (by omega), by rw [if_pos rfl]⟩
    ·
      by_cases e3 : kind = 3
      ·
        by_cases e32 : B.length = 32
        · obtain ⟨W, x, u, n1, n2, cc⟩ := new_both e32
          rcases hw with hw | hw
          · refine ⟨(i + 1, keyF B, boxF, backF, twoF, k1, boxF, backF, twoF, W, x, u, W1, x1, u1, b, b), ⟨h1, true, keyF B, boxF, backF, twoF, k1, boxF, backF, twoF, W, x, u, W1, x1, u1, b, b, ⟨_, rfl, rooM B, room4 hB, ⟨by omega, by omega⟩, false, [], false, [], fun _ => 0#8, fun _ => 0#8, [], fun _ => 0#8, fun _ => 0#8, [], [], fun _ => 0#8, fun _ => 0#8, ?_, fun h => by cases h⟩, ?_⟩, rfl, keyF B, k1, W, x, u, W1, x1, u1, b, rfl, cc, c1, hbb⟩
            · rw [if_neg e1, if_neg e2, if_pos e3]
              refine ⟨rooM B, true, keyF B, boxF, backF, twoF, k1, boxF, backF, twoF, W, x, u, W1, x1, u1, ⟨true, keyF B, boxF, backF, twoF, k1, boxF, backF, twoF, W, x, u, W1, x1, u1, ⟨_, rfl, ?_⟩, by rw [if_pos rfl]; exact ⟨true, kept4 hB, rfl, rfl, rfl, rfl, rfl, rfl, rfl, rfl, rfl, rfl, rfl, rfl, rfl, rfl, rfl, rfl⟩⟩, over3 _ (by omega), rfl, rfl, rfl, rfl, rfl, rfl, rfl, rfl, rfl, rfl, rfl, rfl, rfl, rfl, rfl, rfl, rfl, rfl⟩
              rw [hseg]
              refine .inr ⟨_, _, _, _, _, n1, ?_⟩
              rw [if_neg (fun h => h e32), if_pos hw]
              refine .inr ⟨_, _, _, n2, ?_⟩
              rw [if_pos rfl]
              exact ⟨rfl, rfl, rfl, rfl, rfl, rfl, rfl, rfl, rfl, rfl, rfl, rfl, rfl, rfl, rfl⟩
            · rw [if_pos rfl]
              exact ⟨true, holds4 hbb (by omega), by rw [if_pos rfl]⟩
          · refine ⟨(i + 1, k0, boxF, backF, twoF, keyF B, boxF, backF, twoF, W0, x0, u0, W, x, u, b, b), ⟨h1, true, k0, boxF, backF, twoF, keyF B, boxF, backF, twoF, W0, x0, u0, W, x, u, b, b, ⟨_, rfl, rooM B, room4 hB, ⟨by omega, by omega⟩, false, [], false, [], fun _ => 0#8, fun _ => 0#8, [], fun _ => 0#8, fun _ => 0#8, [], [], fun _ => 0#8, fun _ => 0#8, ?_, fun h => by cases h⟩, ?_⟩, rfl, k0, keyF B, W0, x0, u0, W, x, u, b, rfl, c0, cc, hbb⟩
            · rw [if_neg e1, if_neg e2, if_pos e3]
              refine ⟨rooM B, true, k0, boxF, backF, twoF, keyF B, boxF, backF, twoF, W0, x0, u0, W, x, u, ⟨true, k0, boxF, backF, twoF, keyF B, boxF, backF, twoF, W0, x0, u0, W, x, u, ⟨_, rfl, ?_⟩, by rw [if_pos rfl]; exact ⟨true, kept4 hB, rfl, rfl, rfl, rfl, rfl, rfl, rfl, rfl, rfl, rfl, rfl, rfl, rfl, rfl, rfl, rfl⟩⟩, over3 _ (by omega), rfl, rfl, rfl, rfl, rfl, rfl, rfl, rfl, rfl, rfl, rfl, rfl, rfl, rfl, rfl, rfl, rfl, rfl⟩
              rw [hseg]
              refine .inr ⟨_, _, _, _, _, n1, ?_⟩
              rw [if_neg (fun h => h e32), if_neg (by omega)]
              refine ⟨hw, .inr ⟨_, _, _, n2, ?_⟩⟩
              rw [if_pos rfl]
              exact ⟨rfl, rfl, rfl, rfl, rfl, rfl, rfl, rfl, rfl, rfl, rfl, rfl, rfl, rfl, rfl⟩
            · rw [if_pos rfl]
              exact ⟨true, holds4 hbb (by omega), by rw [if_pos rfl]⟩
        · refine ⟨(i + 1, k0, boxF, backF, twoF, k1, boxF, backF, twoF, W0, x0, u0, W1, x1, u1, b, b), ⟨h1, true, k0, boxF, backF, twoF, k1, boxF, backF, twoF, W0, x0, u0, W1, x1, u1, b, b, ⟨_, rfl, rooM B, room4 hB, ⟨by omega, by omega⟩, false, [], false, [], fun _ => 0#8, fun _ => 0#8, [], fun _ => 0#8, fun _ => 0#8, [], [], fun _ => 0#8, fun _ => 0#8, ?_, fun h => by cases h⟩, ?_⟩, rfl, k0, k1, W0, x0, u0, W1, x1, u1, b, rfl, c0, c1, hbb⟩
          · rw [if_neg e1, if_neg e2, if_pos e3]
            refine ⟨rooM B, true, k0, boxF, backF, twoF, k1, boxF, backF, twoF, W0, x0, u0, W1, x1, u1, ⟨true, k0, boxF, backF, twoF, k1, boxF, backF, twoF, W0, x0, u0, W1, x1, u1, ⟨_, rfl, ?_⟩, by rw [if_pos rfl]; exact ⟨true, kept4 hB, rfl, rfl, rfl, rfl, rfl, rfl, rfl, rfl, rfl, rfl, rfl, rfl, rfl, rfl, rfl, rfl⟩⟩, over3 _ (by omega), rfl, rfl, rfl, rfl, rfl, rfl, rfl, rfl, rfl, rfl, rfl, rfl, rfl, rfl, rfl, rfl, rfl, rfl⟩
            rw [hseg]
            refine .inl ⟨40, new_no e32, ?_⟩
            rw [if_pos e32, if_pos rfl]
            exact ⟨rfl, rfl, rfl, rfl, rfl, rfl, rfl, rfl, rfl, rfl, rfl, rfl, rfl, rfl, rfl⟩
          · rw [if_pos rfl]
            exact ⟨true, holds4 hbb (by omega), by rw [if_pos rfl]⟩
      ·
        by_cases e4 : kind = 4
        ·
          rcases hw with hw | hw
          · obtain ⟨y, z, a1, a2, a3⟩ := enc_both c0 blk
            refine ⟨(i + 1, k0, boxF, backF, twoF, k1, boxF, backF, twoF, W0, x0, u0, W1, x1, u1, b, b), ⟨h1, true, k0, boxF, backF, twoF, k1, boxF, backF, twoF, W0, x0, u0, W1, x1, u1, b, b, ⟨_, rfl, rooM B, room4 hB, ⟨by omega, by omega⟩, true, rooM B, true, W0, x0, u0, W1, x1, u1, b, b, k0, k1, ?_, fun _ => ?_⟩, ?_⟩, rfl, k0, k1, W0, x0, u0, W1, x1, u1, b, rfl, c0, c1, hbb⟩
            · rw [if_neg e1, if_neg e2, if_neg e3, if_pos e4, if_pos hw]
              exact ⟨y, a1, z, a2, rfl, rfl, a3.symm, rfl, rfl, rfl, rfl, rfl, rfl, rfl, rfl, rfl, rfl⟩
            · rw [if_pos rfl]
              exact ⟨true, kept4 hB, rfl, rfl, rfl, rfl, rfl, rfl, rfl, rfl, rfl, rfl, rfl, rfl, rfl, rfl, rfl, rfl, rfl⟩
            · rw [if_pos rfl]
              exact ⟨true, holds4 hbb (by omega), by rw [if_pos rfl]⟩
          · obtain ⟨y, z, a1, a2, a3⟩ := enc_both c1 blk
            refine ⟨(i + 1, k0, boxF, backF, twoF, k1, boxF, backF, twoF, W0, x0, u0, W1, x1, u1, b, b), ⟨h1, true, k0, boxF, backF, twoF, k1, boxF, backF, twoF, W0, x0, u0, W1, x1, u1, b, b, ⟨_, rfl, rooM B, room4 hB, ⟨by omega, by omega⟩, true, rooM B, true, W0, x0, u0, W1, x1, u1, b, b, k0, k1, ?_, fun _ => ?_⟩, ?_⟩, rfl, k0, k1, W0, x0, u0, W1, x1, u1, b, rfl, c0, c1, hbb⟩
            · rw [if_neg e1, if_neg e2, if_neg e3, if_pos e4, if_neg (by omega)]
              exact ⟨hw, y, a1, z, a2, rfl, rfl, a3.symm, rfl, rfl, rfl, rfl, rfl, rfl, rfl, rfl, rfl, rfl⟩
            · rw [if_pos rfl]
              exact ⟨true, kept4 hB, rfl, rfl, rfl, rfl, rfl, rfl, rfl, rfl, rfl, rfl, rfl, rfl, rfl, rfl, rfl, rfl, rfl⟩
            · rw [if_pos rfl]
              exact ⟨true, holds4 hbb (by omega), by rw [if_pos rfl]⟩
        ·
          by_cases e5 : kind = 5
          ·
            rcases hw with hw | hw
            · obtain ⟨y, z, a1, a2, a3⟩ := dec_both c0 blk
              refine ⟨(i + 1, k0, boxF, backF, twoF, k1, boxF, backF, twoF, W0, x0, u0, W1, x1, u1, b, b), ⟨h1, true, k0, boxF, backF, twoF, k1, boxF, backF, twoF, W0, x0, u0, W1, x1, u1, b, b, ⟨_, rfl, rooM B, room4 hB, ⟨by omega, by omega⟩, true, rooM B, true, W0, x0, u0, W1, x1, u1, b, b, k0, k1, ?_, fun _ => ?_⟩, ?_⟩, rfl, k0, k1, W0, x0, u0, W1, x1, u1, b, rfl, c0, c1, hbb⟩
              · rw [if_neg e1, if_neg e2, if_neg e3, if_neg e4, if_pos e5, if_pos hw]
                exact ⟨y, a1, z, a2, rfl, rfl, a3.symm, rfl, rfl, rfl, rfl, rfl, rfl, rfl, rfl, rfl, rfl⟩
              · rw [if_pos rfl]
                exact ⟨true, kept4 hB, rfl, rfl, rfl, rfl, rfl, rfl, rfl, rfl, rfl, rfl, rfl, rfl, rfl, rfl, rfl, rfl, rfl⟩
              · rw [if_pos rfl]
                exact ⟨true, holds4 hbb (by omega), by rw [if_pos rfl]⟩
            · obtain ⟨y, z, a1, a2, a3⟩ := dec_both c1 blk
              refine ⟨(i + 1, k0, boxF, backF, twoF, k1, boxF, backF, twoF, W0, x0, u0, W1, x1, u1, b, b), ⟨h1, true, k0, boxF, backF, twoF, k1, boxF, backF, twoF, W0, x0, u0, W1, x1, u1, b, b, ⟨_, rfl, rooM B, room4 hB, ⟨by omega, by omega⟩, true, rooM B, true, W0, x0, u0, W1, x1, u1, b, b, k0, k1, ?_, fun _ => ?_⟩, ?_⟩, rfl, k0, k1, W0, x0, u0, W1, x1, u1, b, rfl, c0, c1, hbb⟩
              · rw [if_neg e1, if_neg e2, if_neg e3, if_neg e4, if_pos e5, if_neg (by omega)]
                exact ⟨hw, y, a1, z, a2, rfl, rfl, a3.symm, rfl, rfl, rfl, rfl, rfl, rfl, rfl, rfl, rfl, rfl⟩
              · rw [if_pos rfl]
                exact ⟨true, kept4 hB, rfl, rfl, rfl, rfl, rfl, rfl, rfl, rfl, rfl, rfl, rfl, rfl, rfl, rfl, rfl, rfl, rfl⟩
              · rw [if_pos rfl]
                exact ⟨true, holds4 hbb (by omega), by rw [if_pos rfl]⟩
          ·
            by_cases e6 : kind = 6
            ·
              rcases hw with hw | hw
              · obtain ⟨y, a1, a2, a3⟩ := str_both c0 blk hB
                obtain ⟨b', hb', hn⟩ := note4 hb (by omega) (l := y) (by omega)
                have hbb' : b'.length ≤ 2 * (i + 1) := by omega
                refine ⟨(i + 1, k0, boxF, backF, twoF, k1, boxF, backF, twoF, W0, x0, u0, W1, x1, u1, b', b'), ⟨h1, true, k0, boxF, backF, twoF, k1, boxF, backF, twoF, W0, x0, u0, W1, x1, u1, b', b', ⟨_, rfl, rooM B, room4 hB, ⟨by omega, by omega⟩, true, rooM B, true, W0, x0, u0, W1, x1, u1, b', b', k0, k1, ?_, fun _ => ?_⟩, ?_⟩, rfl, k0, k1, W0, x0, u0, W1, x1, u1, b', rfl, c0, c1, hbb'⟩
                · rw [if_neg e1, if_neg e2, if_neg e3, if_neg e4, if_neg e5, if_pos e6, if_pos hw, hseg]
                  exact ⟨y, a1, y, a2, true, (decide_eq_true rfl).symm, _, _, hn, rfl, rfl, rfl, rfl, rfl, rfl, rfl, rfl, rfl, rfl, rfl, rfl, rfl⟩
                · rw [if_pos rfl]
                  exact ⟨true, kept4 hB, rfl, rfl, rfl, rfl, rfl, rfl, rfl, rfl, rfl, rfl, rfl, rfl, rfl, rfl, rfl, rfl, rfl⟩
                · rw [if_pos rfl]
                  exact ⟨true, holds4 hbb' (by omega), by rw [if_pos rfl]⟩
              · obtain ⟨y, a1, a2, a3⟩ := str_both c1 blk hB
                obtain ⟨b', hb', hn⟩ := note4 hb (by omega) (l := y) (by omega)
                have hbb' : b'.length ≤ 2 * (i + 1) := by omega
                refine ⟨(i + 1, k0, boxF, backF, twoF, k1, boxF, backF, twoF, W0, x0, u0, W1, x1, u1, b', b'), ⟨h1, true, k0, boxF, backF, twoF, k1, boxF, backF, twoF, W0, x0, u0, W1, x1, u1, b', b', ⟨_, rfl, rooM B, room4 hB, ⟨by omega, by omega⟩, true, rooM B, true, W0, x0, u0, W1, x1, u1, b', b', k0, k1, ?_, fun _ => ?_⟩, ?_⟩, rfl, k0, k1, W0, x0, u0, W1, x1, u1, b', rfl, c0, c1, hbb'⟩
                · rw [if_neg e1, if_neg e2, if_neg e3, if_neg e4, if_neg e5, if_pos e6, if_neg (by omega), hseg]
                  exact ⟨hw, y, a1, y, a2, true, (decide_eq_true rfl).symm, _, _, hn, rfl, rfl, rfl, rfl, rfl, rfl, rfl, rfl, rfl, rfl, rfl, rfl, rfl⟩
                · rw [if_pos rfl]
                  exact ⟨true, kept4 hB, rfl, rfl, rfl, rfl, rfl, rfl, rfl, rfl, rfl, rfl, rfl, rfl, rfl, rfl, rfl, rfl, rfl⟩
                · rw [if_pos rfl]
                  exact ⟨true, holds4 hbb' (by omega), by rw [if_pos rfl]⟩
            ·
              by_cases e7 : kind = 7
              ·
                rcases hw with hw | hw
                · obtain ⟨k', W, x, u, a1, a2, cc⟩ := wipe_both k0
                  refine ⟨(i + 1, k', boxF, backF, twoF, k1, boxF, backF, twoF, W, x, u, W1, x1, u1, b, b), ⟨h1, true, k', boxF, backF, twoF, k1, boxF, backF, twoF, W, x, u, W1, x1, u1, b, b, ⟨_, rfl, rooM B, room4 hB, ⟨by omega, by omega⟩, true, rooM B, true, W, x, u, W1, x1, u1, b, b, k', k1, ?_, fun _ => ?_⟩, ?_⟩, rfl, k', k1, W, x, u, W1, x1, u1, b, rfl, cc, c1, hbb⟩
                  · rw [if_neg e1, if_neg e2, if_neg e3, if_neg e4, if_neg e5, if_neg e6, if_pos e7, if_pos hw]
                    exact ⟨_, a1, .inr ⟨_, _, _, a2, rfl, rfl, rfl, rfl, rfl, rfl, rfl, rfl, rfl, rfl, rfl, rfl, rfl⟩⟩
                  · rw [if_pos rfl]
                    exact ⟨true, kept4 hB, rfl, rfl, rfl, rfl, rfl, rfl, rfl, rfl, rfl, rfl, rfl, rfl, rfl, rfl, rfl, rfl, rfl⟩
                  · rw [if_pos rfl]
                    exact ⟨true, holds4 hbb (by omega), by rw [if_pos rfl]⟩
                · obtain ⟨k', W, x, u, a1, a2, cc⟩ := wipe_both k1
                  refine ⟨(i + 1, k0, boxF, backF, twoF, k', boxF, backF, twoF, W0, x0, u0, W, x, u, b, b), ⟨h1, true, k0, boxF, backF, twoF, k', boxF, backF, twoF, W0, x0, u0, W, x, u, b, b, ⟨_, rfl, rooM B, room4 hB, ⟨by omega, by omega⟩, true, rooM B, true, W0, x0, u0, W, x, u, b, b, k0, k', ?_, fun _ => ?_⟩, ?_⟩, rfl, k0, k', W0, x0, u0, W, x, u, b, rfl, c0, cc, hbb⟩
                  · rw [if_neg e1, if_neg e2, if_neg e3, if_neg e4, if_neg e5, if_neg e6, if_pos e7, if_neg (by omega)]
                    exact ⟨hw, _, a1, .inr ⟨_, _, _, a2, rfl, rfl, rfl, rfl, rfl, rfl, rfl, rfl, rfl, rfl, rfl, rfl, rfl⟩⟩
                  · rw [if_pos rfl]
                    exact ⟨true, kept4 hB, rfl, rfl, rfl, rfl, rfl, rfl, rfl, rfl, rfl, rfl, rfl, rfl, rfl, rfl, rfl, rfl, rfl⟩
                  · rw [if_pos rfl]
                    exact ⟨true, holds4 hbb (by omega), by rw [if_pos rfl]⟩
              ·
                refine ⟨(i + 1, k0, boxF, backF, twoF, k1, boxF, backF, twoF, W0, x0, u0, W1, x1, u1, b, b), ⟨h1, true, k0, boxF, backF, twoF, k1, boxF, backF, twoF, W0, x0, u0, W1, x1, u1, b, b, ⟨_, rfl, rooM B, room4 hB, ⟨by omega, by omega⟩, true, rooM B, true, W0, x0, u0, W1, x1, u1, b, b, k0, k1, ?_, fun _ => ?_⟩, ?_⟩, rfl, k0, k1, W0, x0, u0, W1, x1, u1, b, rfl, c0, c1, hbb⟩
                · rw [if_neg e1, if_neg e2, if_neg e3, if_neg e4, if_neg e5, if_neg e6, if_neg e7]
                  exact ⟨rfl, rfl, rfl, rfl, rfl, rfl, rfl, rfl, rfl, rfl, rfl, rfl, rfl⟩
                · rw [if_pos rfl]
                  exact ⟨true, kept4 hB, rfl, rfl, rfl, rfl, rfl, rfl, rfl, rfl, rfl, rfl, rfl, rfl, rfl, rfl, rfl, rfl, rfl⟩
                · rw [if_pos rfl]
                  exact ⟨true, holds4 hbb (by omega), by rw [if_pos rfl]⟩
theorem aesExact_true (script : List (Int × Int × (BitVec 8) × (BitVec 8) × (BitVec 64) × (Nat → BitVec 8) × (List Byte))) (hQ : ∀ (j : Nat) x, script[j]? = some x → x.2.2.2.2.2.2.length ≤ reachBytes) : lethelaw04_AesExact script true := by
  have h32 : (List.replicate 32 0#8 : List Byte).length ≤ reachBytes := by decide +kernel
  have h17 : (List.replicate 17 0#8 : List Byte).length ≤ reachBytes := by decide +kernel
  have l32 := rooM_length (List.replicate 32 0#8)
  have l17 := rooM_length (List.replicate 17 0#8)
  rw [List.length_replicate] at l32 l17
  have s32 : seg (rooM (List.replicate 32 0#8)) 0 32 = List.replicate 32 0#8 := by
    have := rooM_seg (List.replicate 32 0#8); rwa [List.length_replicate] at this
  have s17 : seg (rooM (List.replicate 17 0#8)) 0 17 = List.replicate 17 0#8 := by
    have := rooM_seg (List.replicate 17 0#8); rwa [List.length_replicate] at this
  obtain ⟨W, x, u, n1, n2, cc⟩ := new_both (key := List.replicate 32 0#8) List.length_replicate
  generalize hK : keyF (List.replicate 32 0#8) = K at n1 cc
  refine ⟨true, K, boxF, backF, twoF, W, x, u, ⟨_, room4 h32, by omega, rooM (List.replicate 32 0#8), true, K, boxF, backF, twoF, W, x, u, ⟨true, K, boxF, backF, twoF, W, x, u, .inr ⟨_, _, _, _, _, by rw [s32]; exact n1, .inr ⟨_, _, _, n2, by rw [if_pos rfl]; exact ⟨rfl, rfl, rfl, rfl, rfl, rfl, rfl, rfl⟩⟩⟩, by rw [if_pos rfl]; exact ⟨true, kept4 h32, rfl, rfl, rfl, rfl, rfl, rfl, rfl, rfl, rfl⟩⟩, over0 _ (by omega), rfl, rfl, rfl, rfl, rfl, rfl, rfl, rfl⟩, ?_⟩
  rw [if_pos rfl]
  refine ⟨true, K, boxF, backF, twoF, W, x, u, ⟨_, room4 h32, by omega, rooM (List.replicate 32 0#8), true, K, boxF, backF, twoF, W, x, u, ⟨true, K, boxF, backF, twoF, W, x, u, .inr ⟨_, _, _, _, _, by rw [s32]; exact n1, .inr ⟨_, _, _, n2, by rw [if_pos rfl]; exact ⟨rfl, rfl, rfl, rfl, rfl, rfl, rfl, rfl⟩⟩⟩, by rw [if_pos rfl]; exact ⟨true, kept4 h32, rfl, rfl, rfl, rfl, rfl, rfl, rfl, rfl, rfl⟩⟩, over1 _ (by omega), rfl, rfl, rfl, rfl, rfl, rfl, rfl, rfl⟩, ?_⟩
  rw [if_pos rfl]
  obtain ⟨z, hI, k0, k1, W0, x0, u0, W1, x1, u1, b, rfl, c0, c1, hb⟩ := iter_ga (step := lethelaw04_AesExact_l2 script true) (fun s : ST => s.1 ≤ 40 ∧ ∃ k0 k1 W0 x0 u0 W1 x1 u1 b, s = (s.1, k0, boxF, backF, twoF, k1, boxF, backF, twoF, W0, x0, u0, W1, x1, u1, b, b) ∧ Inv4 k0 k1 W0 x0 u0 W1 x1 u1 b s.1) (fun r => ∃ k0 k1 W0 x0 u0 W1 x1 u1 b, r = some (k0, boxF, backF, twoF, k1, boxF, backF, twoF, W0, x0, u0, W1, x1, u1, b, b) ∧ Inv4 k0 k1 W0 x0 u0 W1 x1 u1 b 40) (fun s => 40 - s.1) (by
    rintro ⟨i, s⟩ ⟨hi, k0, k1, W0, x0, u0, W1, x1, u1, b, hs, c0, c1, hb⟩
    dsimp only at hi hs hb ⊢
    simp only [Prod.mk.injEq, true_and] at hs
    obtain ⟨rfl, rfl, rfl, rfl, rfl, rfl, rfl, rfl, rfl, rfl, rfl, rfl, rfl, rfl, rfl, rfl⟩ := hs
    by_cases h1 : i < script.length
    · by_cases h2 : i < 40
      · obtain ⟨s', h3, h4, k0', k1', W0', x0', u0', W1', x1', u1', b', h5, h6⟩ := step4 hQ h1 h2 c0 c1 hb
        refine .inr ⟨s', h3, ⟨by omega, k0', k1', W0', x0', u0', W1', x1', u1', b', by rw [h4]; exact h5, by rw [h4]; exact h6⟩, by omega⟩
      · refine .inl ⟨_, by unfold lethelaw04_AesExact_l2; dsimp only; rw [if_pos h1, if_neg h2], k0, k1, W0, x0, u0, W1, x1, u1, b, rfl, c0, c1, by omega⟩
    · refine .inl ⟨_, by unfold lethelaw04_AesExact_l2; dsimp only; rw [if_neg h1], k0, k1, W0, x0, u0, W1, x1, u1, b, rfl, c0, c1, by omega⟩) 41 (0, K, boxF, backF, twoF, K, boxF, backF, twoF, W, x, u, W, x, u, [], []) (by dsimp only; omega) ⟨by dsimp only; omega, K, K, W, x, u, W, x, u, [], rfl, cc, cc, by simp⟩
  refine ⟨_, hI, fun a1 a2 a3 a4 a5 a6 a7 a8 a9 a10 a11 a12 a13 a14 a15 a16 he => ?_⟩
  simp only [Option.some.injEq, Prod.mk.injEq] at he
  obtain ⟨rfl, rfl, rfl, rfl, rfl, rfl, rfl, rfl, rfl, rfl, rfl, rfl, rfl, rfl, rfl, rfl⟩ := he
  obtain ⟨y, p1, p2, p3⟩ := str_both c0 (fun _ => 0#8) h17
  obtain ⟨b', hb', hn⟩ := note4 hb (by omega) (l := y) (by omega)
  refine ⟨true, b', b', ⟨_, room4 h17, by omega, y, by rw [s17]; exact p1, y, p2, true, (decide_eq_true rfl).symm, _, _, hn, ?_⟩, ?_⟩
  · rw [if_pos rfl]; exact ⟨true, kept4 h17, rfl, rfl, rfl⟩
  · rw [if_pos rfl]
    obtain ⟨y2, z2, q1, q2, q3⟩ := dec_both c1 (fun _ => 0#8)
    refine ⟨true, ⟨_, room4 (Nat.zero_le _), by omega, y2, q1, z2, q2, ?_⟩, ?_⟩
    · rw [if_pos q3]; exact ⟨true, kept4 (Nat.zero_le _), rfl⟩
    · rw [if_pos rfl]; exact ⟨true, holds4 hb' (by omega), rfl⟩
end Go.Proofs.Ythjkmhdgenmnoaa
