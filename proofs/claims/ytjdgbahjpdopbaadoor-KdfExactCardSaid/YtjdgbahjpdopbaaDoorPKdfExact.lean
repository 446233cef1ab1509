/-
  PLAIN LAW OF KdfExact (own work): every answer is the document's, and the book holds.
-/
import Derived.Test.YtjdgbahjpdopbaaDoorPm
import Derived.Test.YtjdgbahjpdopbaaDoorRKdfExact
namespace Go.Proofs.YtjdgbahjpdopbaaDoor
set_option linter.unusedSimpArgs false
set_option linter.unusedVariables false
set_option linter.unusedSectionVars false
open Go Go.LW
set_option maxRecDepth 10000

/-- the first 400 bytes -/
def sh4 (X : List Byte) : List Byte := if 400 < X.length then seg X 0 400 else X
theorem sh4_ok (X : List Byte) : lethelaw03_short X (sh4 X) := by
  unfold lethelaw03_short sh4
  by_cases h : 400 < X.length
  · rw [if_pos h, if_pos h]; exact ⟨by omega, rfl⟩
  · rw [if_neg h, if_neg h]
theorem sh4_le (X : List Byte) : (sh4 X).length ≤ 400 := by
  unfold sh4
  split
  · rw [seg_length (by omega)]; omega
  · omega
theorem room3 {X : List Byte} (h : X.length ≤ 10000) : lethelaw03_Room X (rooM X) := ⟨by omega, by simp only [List.nil_append, List.length_cons, List.length_nil]; omega, rfl⟩
theorem kept3 {X : List Byte} (h : X.length ≤ 10000) : lethelaw03_Kept (rooM X) X true := ⟨_, room3 h, true, (decide_eq_true rfl).symm, rfl⟩

/-- a book in order: what it holds is what it wants -/
abbrev BK := List (List Byte) × List (List (Nat → Byte))
def ok3 (n : Nat) (b : BK) : Prop := b.1.length ≤ n ∧ b.2.length ≤ n ∧ ∀ l ∈ b.2, l.length ≤ 400
theorem note3 (b : BK) {n : Nat} (hb : ok3 n b) (hn : n ≤ 1000) {l : List Byte} (hl : l.length ≤ 10000) : ∃ b' : BK, ok3 (n + 2) b' ∧ lethelaw03_Book_Note b.1 b.1 b.2 b.2 l (b'.1, b'.1, b'.2, b'.2) := by
  obtain ⟨h1, h2, h3⟩ := hb
  refine ⟨(b.1 ++ [_, _], b.2), ⟨by simp only [List.length_append, List.length_cons, List.length_nil]; omega, by dsimp only; omega, h3⟩, by omega, by omega, (List.range l.length).map fun i => BitVec.ofNat 8 (((b.1.length * 29) + 7) + i), _, ?_, by omega, by omega, ?_, ?_, ?_, ?_, rfl⟩
  · have key : Iter (lethelaw03_Book_Note_l0 b.1 l) (mkl (fun i => BitVec.ofNat 8 (((b.1.length * 29) + 7) + i)) l 0, (List.range 0).map fun i => BitVec.ofNat 8 (((b.1.length * 29) + 7) + i), 0) ((List.range l.length).map fun i => BitVec.ofNat 8 (((b.1.length * 29) + 7) + i), (List.range l.length).map fun i => BitVec.ofNat 8 (((b.1.length * 29) + 7) + i)) := by
      refine Iter.count (fun i => (mkl (fun i => BitVec.ofNat 8 (((b.1.length * 29) + 7) + i)) l i, (List.range i).map (fun i => BitVec.ofNat 8 (((b.1.length * 29) + 7) + i)), i)) l.length (fun i hi => ?_) ?_
      · unfold lethelaw03_Book_Note_l0; dsimp only
        rw [if_pos hi, mkl_set (fun i => BitVec.ofNat 8 (((b.1.length * 29) + 7) + i)) l hi, mkl_lit _ l hi, map_snoc (fun i => BitVec.ofNat 8 (((b.1.length * 29) + 7) + i))]
        refine ⟨by omega, hi, hi, ?_, by omega, rfl⟩
        simp only [List.length_map, List.length_range, List.length_cons, List.length_nil]; omega
      · unfold lethelaw03_Book_Note_l0; dsimp only
        rw [if_neg (by omega), mkl_all]
    exact key
  · simp only [List.length_cons, List.length_nil]; omega
  · simp only [List.length_cons, List.length_nil]; omega
  · simp only [List.length_cons, List.length_nil, List.length_map, List.length_range]; omega
  · simp only [List.length_cons, List.length_nil]; omega
theorem note32 (b : BK) {n : Nat} (hb : ok3 n b) (hn : n ≤ 1000) {l : List (Nat → Byte)} (hl : l.length ≤ 300) : ∃ b' : BK, ok3 (n + 2) b' ∧ lethelaw03_Book_Note32 b.1 b.1 b.2 b.2 l (b'.1, b'.1, b'.2, b'.2) := by
  obtain ⟨h1, h2, h3⟩ := hb
  obtain ⟨x, hx⟩ : ∃ x, x = upd (upd (fun _ => 0#8) 0 (BitVec.ofNat 8 (b.2.length + 1))) 1 (209#8) := ⟨_, rfl⟩
  unfold lethelaw03_Book_Note32
  rw [← hx]
  refine ⟨(b.1, b.2 ++ [_, _]), ⟨by dsimp only; omega, by simp only [List.length_append, List.length_cons, List.length_nil]; omega, fun z hz => ?_⟩, by omega, (List.range l.length).map fun _ => x, _, ?_, ?_, ?_, ?_, ?_, rfl⟩
  rotate_left
  · have key : Iter (lethelaw03_Book_Note32_l0 b.2) (mkl (fun _ => x) l 0, (List.range 0).map (fun _ => x), 0) ((List.range l.length).map (fun _ => x), (List.range l.length).map (fun _ => x)) := by
      refine Iter.count (fun i => (mkl (fun _ => x) l i, (List.range i).map (fun _ => x), i)) l.length (fun i hi => ?_) ?_
      · unfold lethelaw03_Book_Note32_l0; dsimp only
        have hm := mkl_length (fun _ => x) l (i := i) (by omega)
        rw [if_pos (by omega), ← hx, mkl_set (fun _ => x) l hi, map_snoc (fun _ => x)]
        refine ⟨by omega, ?_, by omega, rfl⟩
        simp only [List.length_map, List.length_range, List.length_cons, List.length_nil]; omega
      · unfold lethelaw03_Book_Note32_l0; dsimp only
        rw [if_neg (by rw [mkl_length _ _ (Nat.le_refl _)]; omega), mkl_all]
    exact key
  · simp only [List.length_cons, List.length_nil, List.length_map, List.length_range]; omega
  · simp only [List.length_cons, List.length_nil]; omega
  · simp only [List.length_cons, List.length_nil, List.length_map, List.length_range]; omega
  · simp only [List.length_cons, List.length_nil]; omega
  · rcases List.mem_append.1 hz with hz | hz
    · exact h3 z hz
    · rcases List.mem_cons.1 hz with rfl | hz
      · rw [List.length_map, List.length_range]; omega
      · obtain rfl := List.mem_singleton.1 hz
        simp only [List.length_append, List.length_map, List.length_range, List.length_cons, List.length_nil]; omega
theorem holds3 (b : BK) {n : Nat} (hb : ok3 n b) (hn : n ≤ 1000) : lethelaw03_Book_Holds b.1 b.1 b.2 b.2 true := by
  obtain ⟨h1, h2, h3⟩ := hb
  refine ⟨some (), ?_, fun _ => ⟨some (), ?_, fun _ => rfl⟩⟩
  · refine Iter.count (fun i => i) b.1.length (fun i hi => ?_) ?_
    · unfold lethelaw03_Book_Holds_l0
      rw [if_pos hi]
      exact ⟨hi, hi, true, (decide_eq_true rfl).symm, by rw [if_pos rfl]; exact ⟨by omega, rfl⟩⟩
    · unfold lethelaw03_Book_Holds_l0; rw [if_neg (by omega)]
  · refine Iter.count (fun i => i) b.2.length (fun i hi => ?_) ?_
    · unfold lethelaw03_Book_Holds_l1
      have hm : b.2.getD i ([] : List (Nat → BitVec 8)) ∈ b.2 := by rw [List.getD_eq_getElem?_getD, List.getElem?_eq_getElem hi]; exact List.getElem_mem hi
      have hl := h3 _ hm
      rw [if_pos hi, if_neg (by simp)]
      refine ⟨hi, hi, some (), ?_, fun _ => ⟨by omega, rfl⟩⟩
      generalize hZ : b.2.getD i ([] : List (Nat → BitVec 8)) = Z at hl
      refine Iter.count (fun k => k) Z.length (fun k hk => ?_) ?_
      · unfold lethelaw03_Book_Holds_l2
        rw [hZ]
        refine ⟨hi, ?_⟩
        rw [if_pos hk]
        exact ⟨hi, hk, hi, hk, by rw [if_pos (eqB_iff.2 fun _ _ => rfl)]; exact ⟨by omega, rfl⟩⟩
      · unfold lethelaw03_Book_Holds_l2
        rw [hZ]
        exact ⟨hi, by rw [if_neg (by omega)]⟩
    · unfold lethelaw03_Book_Holds_l1; rw [if_neg (by omega)]
/-! the document's keys -/
def kR (B : List Byte) : Nat → List (Nat → Byte)
  | 0 => []
  | i + 1 => kR B i ++ [upto 0#8 (fun q => lit B (32 * i + q)) 32]
theorem kR_length (B : List Byte) : ∀ n, (kR B n).length = n
  | 0 => rfl
  | n + 1 => by show (kR B n ++ [_]).length = _; rw [List.length_append, kR_length B n]; rfl
theorem kR_get (B : List Byte) (dflt : Nat → Byte) : ∀ n i, i < n → (kR B n).getD i dflt = upto 0#8 (fun q => lit B (32 * i + q)) 32
  | n + 1, i, h => by
    have hl := kR_length B n
    show (kR B n ++ [_]).getD i dflt = _
    rw [List.getD_eq_getElem?_getD]
    by_cases hi : i < n
    · rw [List.getElem?_append_left (by omega), ← List.getD_eq_getElem?_getD]
      exact kR_get B dflt n i hi
    · obtain rfl : i = n := by omega
      rw [List.getElem?_append_right (by omega), hl, Nat.sub_self]; rfl
theorem refkeys_ok {salt key info : List Byte} {n : Nat} (hs : salt.length < 70368744177664) (hk : key.length < 1000000000) (hi : info.length < 1000000) (hn : n ≤ 255) :
    letheref03_Keys salt key info (n : Int) (kR (expL (dl 32 (macL salt key)) info (32 * n)) n, 0) := by
  unfold letheref03_Keys
  rw [if_neg (by omega), if_neg (by omega)]
  have hd := refderive_ok (n := 32 * n) hs hk hi (by omega)
  have hL := expL_length (dl 32 (macL salt key)) info (32 * n)
  generalize expL (dl 32 (macL salt key)) info (32 * n) = B at hd hL ⊢
  refine .inr ⟨B, 0, by simpa using hd, ?_⟩
  rw [if_neg (by decide)]
  refine ⟨kR B n, ?_, rfl⟩
  refine Iter.count (fun i => (kR B i, i)) n (fun i hi => ?_) ?_
  · unfold letheref03_Keys_l2
    dsimp only
    have hl := kR_length B i
    rw [if_pos (by omega)]
    refine ⟨upto 0#8 (fun q => lit B (32 * i + q)) 32, ?_, ?_, rfl⟩
    · rw [← upto_zero 0#8 (fun q => lit B (32 * i + q))]
      refine Iter.count (fun m => (m, upto 0#8 (fun q => lit B (32 * i + q)) m)) 32 (fun m hm => ?_) ?_
      · unfold letheref03_Keys_l3; dsimp only
        rw [if_pos hm]
        exact ⟨by omega, by rw [← upto_succ 0#8 (fun q => lit B (32 * i + q)) m]⟩
      · unfold letheref03_Keys_l3; dsimp only; rw [if_neg (by omega)]
    · rw [hl, List.length_singleton]; omega
  · unfold letheref03_Keys_l2
    dsimp only
    rw [if_neg (by omega)]
theorem keys_same (B : List Byte) {n : Nat} (hB : B.length = 32 * n) {i : Nat} (hi : i < n) : eqB 32 ((keysL B n).getD i (fun _ => 0#8)) ((kR B n).getD i (fun _ => 0#8)) = true := by
  rw [keysL_get _ _ _ _ hi, kR_get _ _ _ _ hi]
  refine eqB_iff.2 fun q hq => ?_
  unfold upto
  rw [if_pos hq, lit_seg (Nat.le_refl _) (by omega)]
theorem bkeys3 (b : BK) {m : Nat} (hb : ok3 m b) (hm : m ≤ 1000) {key x y : List Byte} (hk : key.length ≤ 400) (hx : x.length ≤ 400) (hy : y.length ≤ 400) (n : Int) : ∃ b' : BK, ok3 (m + 2) b' ∧ lethelaw03_Book_keys b.1 b.1 b.2 b.2 key x y n (true, b'.1, b'.1, b'.2, b'.2) := by
  have err : ∀ c : Nat, kdf_Keys key x y n ([], c) → letheref03_Keys key x y n ([], c) → ∃ b' : BK, ok3 (m + 2) b' ∧ lethelaw03_Book_keys b.1 b.1 b.2 b.2 key x y n (true, b'.1, b'.1, b'.2, b'.2) := fun c h1 h2 => by
    obtain ⟨b', hb', hn⟩ := note32 b hb hm (l := []) (by simp)
    refine ⟨b', hb', _, _, h1, _, _, h2, ?_⟩
    rw [if_neg (by simp), if_neg (by simp)]
    exact ⟨some (), .done (by unfold lethelaw03_Book_keys_l0; rw [if_neg (by simp)]), fun _ => ⟨_, _, _, _, hn, rfl⟩⟩
  by_cases h0 : n < 0
  · exact err 4 (by unfold kdf_Keys; rw [if_pos h0]) (by unfold letheref03_Keys; rw [if_pos h0])
  · by_cases h1 : 255 < n
    · exact err 30 (by unfold kdf_Keys; rw [if_neg h0, if_pos h1]) (by unfold letheref03_Keys; rw [if_neg h0, if_pos h1])
    · obtain ⟨N, rfl⟩ := Int.eq_ofNat_of_zero_le (Int.not_lt.1 h0)
      have k1 := keys_ok (salt := key) (key := x) (info := y) (n := N) (by omega) (by omega) (by omega) (by omega)
      have k2 := refkeys_ok (salt := key) (key := x) (info := y) (n := N) (by omega) (by omega) (by omega) (by omega)
      have hL := expL_length (dl 32 (macL key x)) y (32 * N)
      generalize expL (dl 32 (macL key x)) y (32 * N) = B at k1 k2 hL
      have l1 := keysL_length B N
      have l2 := kR_length B N
      obtain ⟨b', hb', hn⟩ := note32 b hb hm (l := keysL B N) (by omega)
      refine ⟨b', hb', _, _, k1, _, _, k2, ?_⟩
      rw [if_neg (by simp), if_neg (by omega)]
      refine ⟨some (), ?_, fun _ => ⟨_, _, _, _, hn, rfl⟩⟩
      refine Iter.count (fun i => i) N (fun i hi => ?_) ?_
      · unfold lethelaw03_Book_keys_l0
        rw [if_pos (by omega)]
        exact ⟨by omega, by omega, by rw [if_pos (keys_same B hL hi)]; exact ⟨by omega, rfl⟩⟩
      · unfold lethelaw03_Book_keys_l0
        rw [if_neg (by omega)]
theorem blists3 (b : BK) {m : Nat} (hb : ok3 m b) (hm : m ≤ 1000) {key x y : List Byte} (hk : key.length ≤ 400) (hx : x.length ≤ 400) (hy : y.length ≤ 400) (kind n : Int) (K A C : List Byte) : ∃ b' : BK, ok3 (m + 2) b' ∧ lethelaw03_Book_lists b.1 b.1 b.2 b.2 kind K A C n key x y (true, b'.1, b'.1, b'.2, b'.2) := by
  have fin : ∀ (l : List Byte) (c : Nat), l.length ≤ 10000 → (if kind = 3 then kdf_Expand key x n (l, c) ∧ (letheref03_Expand key x n (.inl (l, c)) ∨ letheref03_Expand key x n (.inr (l, c))) else kdf_Derive key x y n (l, c) ∧ (letheref03_Derive key x y n (.inl (l, c)) ∨ letheref03_Derive key x y n (.inr (l, c)))) → ∃ b' : BK, ok3 (m + 2) b' ∧ lethelaw03_Book_lists b.1 b.1 b.2 b.2 kind K A C n key x y (true, b'.1, b'.1, b'.2, b'.2) := fun l c hl h => by
    obtain ⟨b', hb', hn⟩ := note3 b hb hm hl
    refine ⟨b', hb', l, l, c, c, ?_, l, true, by rw [if_pos rfl]; exact ⟨true, (decide_eq_true rfl).symm, rfl, rfl⟩, _, _, _, _, hn, rfl⟩
    by_cases h3 : kind = 3
    · rw [if_pos h3] at h ⊢
      obtain ⟨h, h4 | h4⟩ := h
      · exact ⟨l, c, h, .inl ⟨l, c, h4, rfl, rfl, rfl, rfl⟩⟩
      · exact ⟨l, c, h, .inr ⟨l, c, h4, rfl, rfl, rfl, rfl⟩⟩
    · rw [if_neg h3] at h ⊢
      obtain ⟨h, h4 | h4⟩ := h
      · exact ⟨l, c, h, .inl ⟨l, c, h4, rfl, rfl, rfl, rfl⟩⟩
      · exact ⟨l, c, h, .inr ⟨l, c, h4, rfl, rfl, rfl, rfl⟩⟩
  have e1 := extract_ok (X := key) (Z := x) (by omega) (by omega)
  have e2 : letheref03_Extract key x (macL key x) := ⟨_, refmac_ok (by omega) (by omega), rfl⟩
  by_cases h0 : n < 0
  · refine fin [] 4 (by simp) ?_
    split
    · exact ⟨by unfold kdf_Expand; rw [if_pos h0], .inl (by unfold letheref03_Expand; rw [if_pos h0])⟩
    · exact ⟨⟨_, e1, _, _, by unfold kdf_Expand; rw [if_pos h0], rfl⟩, .inl ⟨_, e2, .inl ⟨_, _, by unfold letheref03_Expand; rw [if_pos h0], rfl⟩⟩⟩
  · by_cases h1 : 8160 < n
    · refine fin [] 30 (by simp) ?_
      split
      · exact ⟨by unfold kdf_Expand; rw [if_neg h0, if_pos h1], .inl (by unfold letheref03_Expand; rw [if_neg h0, if_pos h1])⟩
      · exact ⟨⟨_, e1, _, _, by unfold kdf_Expand; rw [if_neg h0, if_pos h1], rfl⟩, .inl ⟨_, e2, .inl ⟨_, _, by unfold letheref03_Expand; rw [if_neg h0, if_pos h1], rfl⟩⟩⟩
    · obtain ⟨N, rfl⟩ := Int.eq_ofNat_of_zero_le (Int.not_lt.1 h0)
      by_cases h3 : kind = 3
      · refine fin (expL key x N) 0 (by rw [expL_length]; omega) ?_
        rw [if_pos h3]
        exact ⟨expand_ok (by omega) (by omega) (by omega), .inr (refexpand_ok (by omega) (by omega) (by omega))⟩
      · refine fin (expL (dl 32 (macL key x)) y N) 0 (by rw [expL_length]; omega) ?_
        rw [if_neg h3]
        exact ⟨derive_ok (by omega) (by omega) (by omega) (by omega), .inr (refderive_ok (by omega) (by omega) (by omega) (by omega))⟩
theorem plays3 (b : BK) {m : Nat} (hb : ok3 m b) (hm : m ≤ 1000) (kind : Int) (K A C : List Byte) (n : Int) : ∃ b' : BK, ok3 (m + 2) b' ∧ lethelaw03_Book_plays b.1 b.1 b.2 b.2 kind K A C n (true, b'.1, b'.1, b'.2, b'.2) := by
  have hK := sh4_le K
  have hA := sh4_le A
  have hC := sh4_le C
  have lK := rooM_length (sh4 K)
  have lA := rooM_length (sh4 A)
  have lC := rooM_length (sh4 C)
  have hb2 : ok3 (m + 2) b := ⟨by have := hb.1; omega, by have := hb.2.1; omega, hb.2.2⟩
  have fin : ∀ b' : BK, ok3 (m + 2) b' → (lethelaw03_Book_plays b.1 b.1 b.2 b.2 kind K A C n (true, b'.1, b'.1, b'.2, b'.2)) → ∃ b' : BK, ok3 (m + 2) b' ∧ lethelaw03_Book_plays b.1 b.1 b.2 b.2 kind K A C n (true, b'.1, b'.1, b'.2, b'.2) := fun b' h1 h2 => ⟨b', h1, h2⟩
  have tail : ∀ b' : BK, (if true = true then ∃ x_400 : List Byte, lethelaw03_short K x_400 ∧ ∃ x_406 : Bool, lethelaw03_Kept (rooM (sh4 K)) x_400 x_406 ∧ if x_406 = true then (∃ x_410 : List Byte, lethelaw03_short A x_410 ∧ ∃ x_416 : Bool, lethelaw03_Kept (rooM (sh4 A)) x_410 x_416 ∧ if x_416 = true then (∃ x_420 : List Byte, lethelaw03_short C x_420 ∧ ∃ x_426 : Bool, lethelaw03_Kept (rooM (sh4 C)) x_420 x_426 ∧ (true, b'.1, b'.1, b'.2, b'.2) = (x_426, b'.1, b'.1, b'.2, b'.2)) else ((true, b'.1, b'.1, b'.2, b'.2) = (false, b'.1, b'.1, b'.2, b'.2))) else ((true, b'.1, b'.1, b'.2, b'.2) = (false, b'.1, b'.1, b'.2, b'.2)) else ((true, b'.1, b'.1, b'.2, b'.2) = (false, b'.1, b'.1, b'.2, b'.2))) := fun b' => by
    rw [if_pos rfl]
    refine ⟨_, sh4_ok K, true, kept3 (by omega), ?_⟩
    rw [if_pos rfl]
    refine ⟨_, sh4_ok A, true, kept3 (by omega), ?_⟩
    rw [if_pos rfl]
    exact ⟨_, sh4_ok C, true, kept3 (by omega), rfl⟩
  have rK := rooM_cut (sh4 K)
  have rA := rooM_cut (sh4 A)
  have rC := rooM_cut (sh4 C)
  unfold lethelaw03_Book_plays
  have go : ∀ b' : BK, ok3 (m + 2) b' → (if kind = 1 then (∃ x : Nat → BitVec 8, kdf_Mac (sh4 K) [sh4 A, sh4 C, sh4 A] x ∧ ∃ z, letheref03_Joined [sh4 A, sh4 C, sh4 A] z ∧ ∃ y, letheref03_Mac (sh4 K) z y ∧ eqB 32 x y = true) ∧ b' = b else if kind = 2 then (∃ x, kdf_Extract (sh4 K) (sh4 A) x ∧ ∃ y, letheref03_Extract (sh4 K) (sh4 A) y ∧ eqB 32 x y = true) ∧ b' = b else if kind = 3 ∨ kind = 4 then lethelaw03_Book_lists b.1 b.1 b.2 b.2 kind K A C n (sh4 K) (sh4 A) (sh4 C) (true, b'.1, b'.1, b'.2, b'.2) else if kind = 5 then lethelaw03_Book_keys b.1 b.1 b.2 b.2 (sh4 K) (sh4 A) (sh4 C) n (true, b'.1, b'.1, b'.2, b'.2) else b' = b) → ∃ b' : BK, ok3 (m + 2) b' ∧ lethelaw03_Book_plays b.1 b.1 b.2 b.2 kind K A C n (true, b'.1, b'.1, b'.2, b'.2) := fun b' hb' h => by
    refine ⟨b', hb', _, sh4_ok K, _, room3 (by omega), _, sh4_ok A, _, room3 (by omega), _, sh4_ok C, _, room3 (by omega), by omega, by omega, by omega, by omega, by omega, by omega, by omega, by omega, by omega, rooM (sh4 K), rooM (sh4 A), rooM (sh4 C), true, b'.1, b'.1, b'.2, b'.2, ?_, tail b'⟩
    rw [rK, rA, rC]
    by_cases h1 : kind = 1
    · rw [if_pos h1] at h ⊢
      obtain ⟨⟨x, g1, z, g2, y, g3, g4⟩, rfl⟩ := h
      exact ⟨x, g1, _, sh4_ok K, _, sh4_ok A, _, sh4_ok C, _, sh4_ok A, z, g2, y, g3, rfl, rfl, rfl, g4.symm, rfl, rfl, rfl, rfl⟩
    · rw [if_neg h1] at h ⊢
      by_cases h2 : kind = 2
      · rw [if_pos h2] at h ⊢
        obtain ⟨⟨x, g1, y, g3, g4⟩, rfl⟩ := h
        exact ⟨x, g1, _, sh4_ok K, _, sh4_ok A, y, g3, rfl, rfl, rfl, g4.symm, rfl, rfl, rfl, rfl⟩
      · rw [if_neg h2] at h ⊢
        by_cases h3 : kind = 3
        · rw [if_pos (.inl h3)] at h
          refine ⟨true, by rw [if_pos h3]; exact (decide_eq_true h3).symm, ?_⟩
          rw [if_pos rfl]
          exact ⟨_, _, _, _, _, h, rfl, rfl, rfl, rfl, rfl, rfl, rfl, rfl⟩
        · by_cases h4 : kind = 4
          · rw [if_pos (.inr h4)] at h
            refine ⟨true, by rw [if_neg h3]; exact (decide_eq_true h4).symm, ?_⟩
            rw [if_pos rfl]
            exact ⟨_, _, _, _, _, h, rfl, rfl, rfl, rfl, rfl, rfl, rfl, rfl⟩
          · rw [if_neg (fun hh => hh.elim h3 h4)] at h
            refine ⟨false, by rw [if_neg h3]; exact (decide_eq_false h4).symm, ?_⟩
            rw [if_neg (by decide)]
            by_cases h5 : kind = 5
            · rw [if_pos h5] at h ⊢
              exact ⟨_, _, _, _, _, h, rfl, rfl, rfl, rfl, rfl, rfl, rfl, rfl⟩
            · rw [if_neg h5] at h ⊢
              subst h
              exact ⟨rfl, rfl, rfl, rfl, rfl, rfl, rfl, rfl⟩
  by_cases h1 : kind = 1
  · refine go b hb2 ?_
    rw [if_pos h1]
    have m1 := mac_ok (X := sh4 K) (P := [sh4 A, sh4 C, sh4 A]) (by omega) (by simp) (by simp only [List.flatten_cons, List.flatten_nil, List.append_nil, List.length_append]; omega)
    have m2 := joined_ok (P := [sh4 A, sh4 C, sh4 A]) (by simp) (by simp only [List.flatten_cons, List.flatten_nil, List.append_nil, List.length_append]; omega)
    have m3 := refmac_ok (K := sh4 K) (T := [sh4 A, sh4 C, sh4 A].flatten) (by omega) (by simp only [List.flatten_cons, List.flatten_nil, List.append_nil, List.length_append]; omega)
    exact ⟨⟨_, m1, _, m2, _, m3, eqB_iff.2 fun _ _ => rfl⟩, rfl⟩
  · by_cases h2 : kind = 2
    · refine go b hb2 ?_
      rw [if_neg h1, if_pos h2]
      exact ⟨⟨_, extract_ok (by omega) (by omega), _, ⟨_, refmac_ok (by omega) (by omega), rfl⟩, eqB_iff.2 fun _ _ => rfl⟩, rfl⟩
    · by_cases h34 : kind = 3 ∨ kind = 4
      · obtain ⟨b', hb', h⟩ := blists3 b hb hm hK hA hC kind n K A C
        refine go b' hb' ?_
        rw [if_neg h1, if_neg h2, if_pos h34]; exact h
      · by_cases h5 : kind = 5
        · obtain ⟨b', hb', h⟩ := bkeys3 b hb hm hK hA hC n
          refine go b' hb' ?_
          rw [if_neg h1, if_neg h2, if_neg h34, if_pos h5]; exact h
        · refine go b hb2 ?_
          rw [if_neg h1, if_neg h2, if_neg h34, if_neg h5]
theorem kdfExact_true (script : List (Int × (List Byte) × (List Byte) × (List Byte) × Int)) : lethelaw03_KdfExact script true := by
  obtain ⟨x, hI, b, rfl, hb⟩ := iter_go (step := lethelaw03_KdfExact_l0 script true) (fun s : Nat × (List (List Byte)) × (List (List Byte)) × (List (List (Nat → BitVec 8))) × (List (List (Nat → BitVec 8))) => s.1 ≤ 30 ∧ s.2.1 = s.2.2.1 ∧ s.2.2.2.1 = s.2.2.2.2 ∧ ok3 (2 * s.1) (s.2.1, s.2.2.2.1)) (fun r => ∃ b : BK, r = some (b.1, b.1, b.2, b.2) ∧ ok3 60 b) (fun s => 30 - s.1) (by
    rintro ⟨i, a, a', k, k'⟩ ⟨hi, h1, h2, hb⟩
    dsimp only at hi h1 h2 hb ⊢
    subst h1 h2
    unfold lethelaw03_KdfExact_l0
    dsimp only
    have stop : ok3 60 (a, k) := ⟨by have := hb.1; dsimp only at this ⊢; omega, by have := hb.2.1; dsimp only at this ⊢; omega, hb.2.2⟩
    by_cases h1 : i < script.length
    · by_cases h2 : i < 30
      · simp only [if_pos h1, if_pos h2]
        generalize script.getD i ((0 : Int), ([] : List Byte), ([] : List Byte), ([] : List Byte), (0 : Int)) = o
        obtain ⟨b', hb', hp⟩ := plays3 (a, k) hb (by omega) o.1 o.2.1 o.2.2.1 o.2.2.2.1 o.2.2.2.2
        have hh := holds3 b' hb' (by omega)
        have e : 2 * i + 2 = 2 * (i + 1) := by omega
        rw [e] at hb'
        refine .inr ⟨(i + 1, b'.1, b'.1, b'.2, b'.2), ⟨h1, true, _, _, _, _, hp, ?_⟩, ⟨by dsimp only; omega, rfl, rfl, hb'⟩, by dsimp only; omega⟩
        rw [if_pos rfl]
        exact ⟨true, hh, by rw [if_pos rfl]⟩
      · simp only [if_pos h1, if_neg h2]
        exact .inl ⟨_, rfl, (a, k), rfl, stop⟩
    · simp only [if_neg h1]
      exact .inl ⟨_, rfl, (a, k), rfl, stop⟩) 31 (0, [], [], [], []) (by dsimp only; omega) ⟨by dsimp only; omega, rfl, rfl, by simp [ok3]⟩
  refine ⟨_, hI, fun m1 m2 m3 m4 he => ?_⟩
  obtain ⟨rfl, rfl, rfl, rfl⟩ : m1 = b.1 ∧ m2 = b.1 ∧ m3 = b.2 ∧ m4 = b.2 := by
    simp only [Option.some.injEq, Prod.mk.injEq] at he
    exact ⟨he.1.symm, he.2.1.symm, he.2.2.1.symm, he.2.2.2.symm⟩
  obtain ⟨b1, hb1, p1⟩ := plays3 b hb (by omega) 1 [] [] [] 0
  obtain ⟨b2, hb2, p2⟩ := plays3 b1 hb1 (by omega) 3 [] [] [] 33
  refine ⟨true, _, _, _, _, p1, ?_⟩
  rw [if_pos rfl]
  refine ⟨true, _, _, _, _, p2, ?_⟩
  rw [if_pos rfl]
  exact ⟨true, holds3 b2 hb2 (by omega), rfl⟩
end Go.Proofs.YtjdgbahjpdopbaaDoor
