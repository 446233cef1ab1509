/-
  PLAIN (own work): what seal's functions compute, as functions of lists of bytes.
-/
import Derived.Test.YthjkmhdgenmnoaaDoorPKdf
import Derived.Test.YthjkmhdgenmnoaaDoorPAes5
import Derived.Test.YthjkmhdgenmnoaaDoorRSeal
namespace Go.Proofs.YthjkmhdgenmnoaaDoor
set_option linter.unusedSimpArgs false
set_option linter.unusedVariables false
set_option linter.unusedSectionVars false
open Go Go.LW

/-! ### wire -/
theorem join_ok (a b : List Byte) (ha : a.length ≤ 1000000) (hb : b.length ≤ 1000000) : wire_Join [a, b] (a ++ b) := by
  refine ⟨a.length + b.length, ?_, by omega, a ++ b, ?_, rfl⟩
  · refine .more (s' := (a.length, 1)) ?_ (.more (s' := (a.length + b.length, 2)) ?_ (.done ?_))
    · unfold wire_Join_l0; dsimp only
      rw [if_pos (by simp)]
      exact ⟨by simp, by show 0 + a.length < _; omega, by omega, by show Sum.inl (a.length, 1) = Sum.inl (0 + a.length, 0 + 1); rw [Nat.zero_add]⟩
    · unfold wire_Join_l0; dsimp only
      rw [if_pos (by simp)]
      exact ⟨by simp, by show a.length + b.length < _; omega, by omega, rfl⟩
    · unfold wire_Join_l0; dsimp only
      rw [if_neg (by simp)]
  · refine .more (s' := (a, 1)) ?_ (.more (s' := (a ++ b, 2)) ?_ (.done ?_))
    · unfold wire_Join_l1; dsimp only
      rw [if_pos (by simp)]
      exact ⟨by simp, by show 0 + a.length ≤ _; omega, by omega, rfl⟩
    · unfold wire_Join_l1; dsimp only
      rw [if_pos (by simp)]
      exact ⟨by simp, by show a.length + b.length ≤ _; omega, by omega, rfl⟩
    · unfold wire_Join_l1; dsimp only
      rw [if_neg (by simp)]
def orAt (a b : List Byte) : Nat → Byte
  | 0 => 0#8
  | i + 1 => orAt a b i ||| (lit a i ^^^ lit b i)
theorem orAt_zero (a b : List Byte) : ∀ n, orAt a b n = 0#8 ↔ ∀ q, q < n → lit a q = lit b q
  | 0 => ⟨fun _ _ h => absurd h (Nat.not_lt_zero _), fun _ => rfl⟩
  | n + 1 => by
    have h8 : ∀ x y z : Byte, x ||| (y ^^^ z) = 0#8 ↔ x = 0#8 ∧ y = z := fun x y z => by
      rw [BitVec.or_eq_zero_iff, BitVec.xor_eq_zero_iff]
    show orAt a b n ||| (lit a n ^^^ lit b n) = 0#8 ↔ _
    rw [h8, orAt_zero a b n]
    refine ⟨fun ⟨h1, h2⟩ q hq => ?_, fun h => ⟨fun q hq => h q (by omega), h n (by omega)⟩⟩
    by_cases h : q = n
    · rw [h]; exact h2
    · exact h1 q (by omega)
theorem same_ok (a b : List Byte) (ha : a.length ≤ 1000000) : wire_Same a b (decide (a = b)) := by
  unfold wire_Same
  by_cases hl : a.length = b.length
  · rw [if_neg (by omega)]
    refine ⟨orAt a b a.length, Iter.count (fun i => (orAt a b i, i)) a.length (fun i hi => ?_) ?_, ?_⟩
    · unfold wire_Same_l0; dsimp only
      rw [if_pos hi]
      exact ⟨hi, by omega, by omega, rfl⟩
    · unfold wire_Same_l0; dsimp only
      rw [if_neg (by omega)]
    · refine decide_eq_decide.2 ((orAt_zero a b a.length).trans ⟨fun h => lext hl h, fun h q _ => by rw [h]⟩).symm
  · rw [if_pos hl]
    exact decide_eq_false fun h => hl (by rw [h])

/-! ### keys -/
def sealName : List Byte := dl 10 (lit ([108#8, 101#8, 116#8, 104#8, 101#8, 32#8, 115#8, 101#8, 97#8, 108#8] : List Byte))
def skey (key : Nat → Byte) : List Byte := expL (dl 32 (macL (List.replicate 32 0#8) (dl 32 key))) sealName 80
theorem skey_length (key : Nat → Byte) : (skey key).length = 80 := expL_length _ _ _
theorem skey_ok (key : Nat → Byte) : kdf_Derive (List.replicate 32 0#8) (dl 32 key) sealName 80 (skey key, 0) :=
  derive_ok (n := 80) (by rw [List.length_replicate]; decide) (by rw [dl_length]; decide) (by unfold sealName; rw [dl_length]; decide) (by omega)
def k1F (key : Nat → Byte) : Nat → Byte := keyF (seg (skey key) 0 32)
def k2F (key : Nat → Byte) : List Byte := seg (skey key) 32 64
def ivF (key : Nat → Byte) : Nat → Byte := lit (seg (skey key) 64 80)
theorem k2F_length (key : Nat → Byte) : (k2F key).length = 32 := by unfold k2F; rw [seg_length (by rw [skey_length]; omega)]
theorem keys_ok (key : Nat → Byte) : seal_keys key (.inr (.inr (k1F key, boxF, backF, twoF, k2F key, ivF key, 0))) := by
  have hl := skey_length key
  refine ⟨0, skey key, ⟨skey key, 0, skey_ok key, rfl, rfl⟩, ?_⟩
  rw [if_neg (by omega)]
  refine ⟨by omega, .inr ⟨k1F key, boxF, backF, twoF, 0, new_ok (by rw [seg_length (by omega)]), ?_⟩⟩
  rw [if_neg (by omega)]
  refine ⟨by omega, by omega, by omega, ?_⟩
  unfold ivF k2F
  rw [hl]

/-! ### the tag -/
def len8 (n i : Nat) : Byte := ((BitVec.ofNat 64 n) >>> (56 - 8 * i)).setWidth 8
def len8L (n : Nat) : List Byte := (List.range 8).map (len8 n)
def lenAt (n t : Nat) : List Byte := (List.range 8).map fun i => if i < t then len8 n i else 0#8
theorem lenAt_length (n t : Nat) : (lenAt n t).length = 8 := by unfold lenAt; rw [List.length_map, List.length_range]
theorem lenAt_at (n t : Nat) {q : Nat} (h : q < 8) : lit (lenAt n t) q = if q < t then len8 n q else 0#8 := lit_range (n := 8) (fun i => if i < t then len8 n i else 0#8) q h
theorem lenAt_succ (n : Nat) {t : Nat} (h : t < 8) : (lenAt n t).set t (len8 n t) = lenAt n (t + 1) := by
  refine lext (by rw [List.length_set, lenAt_length, lenAt_length]) fun q hq => ?_
  rw [List.length_set, lenAt_length] at hq
  rw [lit_set (by rw [lenAt_length]; exact h), lenAt_at _ _ hq, lenAt_at _ _ hq]
  by_cases e : q = t
  · subst e; rw [if_pos rfl, if_pos (by omega)]
  · rw [if_neg e]
    by_cases h2 : q < t
    · rw [if_pos h2, if_pos (by omega)]
    · rw [if_neg h2, if_neg (by omega)]
def tagF (k2 data c : List Byte) : List Byte := dl 32 (macL k2 (data ++ (c ++ len8L data.length)))
theorem tagF_length (k2 data c : List Byte) : (tagF k2 data c).length = 32 := dl_length _ _
theorem tagged_ok {k2 data c : List Byte} (hk : k2.length ≤ 1000000) (hd : data.length ≤ 1000000) (hc : c.length ≤ 1000000) : seal_tagged k2 data c (tagF k2 data c) := by
  refine ⟨lenAt data.length 8, ?_, ?_⟩
  · refine Iter.count (fun i => (lenAt data.length i, i)) 8 (fun i hi => ?_) ?_
    · unfold seal_tagged_l0; dsimp only
      rw [if_pos (by rw [List.length_replicate]; exact hi)]
      refine ⟨by omega, by omega, by omega, by rw [List.length_replicate]; exact hi, by omega, ?_⟩
      rw [show (56 - ((8 * i : Nat) : Int)).toNat = 56 - 8 * i by omega, ← lenAt_succ _ hi]
      rfl
    · unfold seal_tagged_l0; dsimp only
      rw [if_neg (by rw [List.length_replicate]; omega)]
  · have e : lenAt data.length 8 = len8L data.length := by
      unfold lenAt len8L
      refine List.map_congr_left fun i hi => ?_
      rw [if_pos (List.mem_range.1 hi)]
    rw [e]
    have hl : (len8L data.length).length = 8 := by unfold len8L; rw [List.length_map, List.length_range]
    have hm := mac_ok (X := k2) (P := [data, c, len8L data.length]) (by omega) (by simp) (by simp only [List.flatten_cons, List.flatten_nil, List.append_nil, List.length_append]; omega)
    simp only [List.flatten_cons, List.flatten_nil, List.append_nil] at hm
    exact ⟨_, hm, rfl⟩

/-! ### Seal and Open -/
def encS (key : Nat → Byte) (text : List Byte) : List Byte := strF (k1F key) boxF twoF (ivF key) text
theorem encS_length (key : Nat → Byte) (text : List Byte) : (encS key text).length = text.length := strF_length _ _ _ _ _
theorem encS_twice (key : Nat → Byte) (text : List Byte) : encS key (encS key text) = text := strF_twice _ _ _ _ _
def sealF (key : Nat → Byte) (data text : List Byte) : List Byte := encS key text ++ tagF (k2F key) data (encS key text)
theorem sealF_length (key : Nat → Byte) (data text : List Byte) : (sealF key data text).length = text.length + 32 := by
  unfold sealF; rw [List.length_append, encS_length, tagF_length]
theorem seal_ok {key : Nat → Byte} {data text : List Byte} (ht : text.length ≤ 512) (hd : data.length ≤ 65535) : seal_Seal key data text (sealF key data text, 0) := by
  unfold seal_Seal
  rw [if_neg (by omega), if_neg (by omega)]
  refine .inr (.inr ⟨_, _, _, _, _, _, _, keys_ok key, ?_⟩)
  rw [if_neg (by omega)]
  refine ⟨_, str_ok _ _ _ _ _ (by omega), _, tagged_ok (by rw [k2F_length]; omega) (by omega) (by rw [strF_length]; omega), _, join_ok _ _ (by rw [strF_length]; omega) (by rw [tagF_length]; omega), rfl⟩
theorem seal_no {key : Nat → Byte} {data text : List Byte} (h : 512 < text.length ∨ 65535 < data.length) : seal_Seal key data text ([], 5) := by
  unfold seal_Seal
  by_cases ht : 512 < text.length
  · rw [if_pos ht]
  · rw [if_neg ht, if_pos (by omega)]
theorem open_short {key : Nat → Byte} {data s : List Byte} (h : s.length < 32) : seal_Open key data s ([], 10) := by
  refine ⟨by omega, ?_⟩
  rw [if_pos (by omega)]
theorem open_no {key : Nat → Byte} {data s : List Byte} (h0 : 32 ≤ s.length) (hs : s.length < 9223372036854775808) (h : 544 < s.length ∨ 65535 < data.length) : seal_Open key data s ([], 5) := by
  refine ⟨by omega, ?_⟩
  rw [if_neg (by omega)]
  by_cases hc : 544 < s.length
  · rw [if_pos (by omega)]
  · rw [if_neg (by omega), if_pos (by omega)]
def openF (key : Nat → Byte) (data s : List Byte) : List Byte × Nat :=
  if seg s (s.length - 32) s.length = tagF (k2F key) data (seg s 0 (s.length - 32)) then (encS key (seg s 0 (s.length - 32)), 0) else ([], 50)
theorem open_ok {key : Nat → Byte} {data s : List Byte} (h0 : 32 ≤ s.length) (h1 : s.length ≤ 544) (hd : data.length ≤ 65535) : seal_Open key data s (openF key data s) := by
  have e : (((s.length : Nat) : Int) - 32).toNat = s.length - 32 := by omega
  have hcl : (seg s 0 (s.length - 32)).length = s.length - 32 := by rw [seg_length (by omega)]; omega
  refine ⟨by omega, ?_⟩
  rw [if_neg (by omega), if_neg (by omega), if_neg (by omega), e]
  refine .inr (.inr ⟨_, _, _, _, _, _, _, keys_ok key, ?_⟩)
  rw [if_neg (by omega)]
  refine ⟨by omega, by omega, by omega, by omega, _, tagged_ok (by rw [k2F_length]; omega) (by omega) (by omega), _, same_ok _ _ (by rw [seg_length (Nat.le_refl _)]; omega), ?_⟩
  unfold openF
  by_cases h : seg s (s.length - 32) s.length = tagF (k2F key) data (seg s 0 (s.length - 32))
  · rw [if_pos (decide_eq_true h), if_pos h]
    exact ⟨by omega, by omega, _, str_ok _ _ _ _ _ (by omega), rfl⟩
  · rw [if_neg (by simpa using h), if_neg h]
theorem length_ok (n : Int) : seal_Length n (if 0 ≤ n ∧ n ≤ 512 then n + 32 else 0) := by
  unfold seal_Length
  by_cases h0 : n < 0
  · rw [if_pos h0, if_neg (by omega)]
  · rw [if_neg h0]
    by_cases h1 : 512 < n
    · rw [if_pos h1, if_neg (by omega)]
    · rw [if_neg h1, if_pos (by omega)]
theorem open_seal {key : Nat → Byte} {data text : List Byte} : openF key data (sealF key data text) = (text, 0) := by
  have hl := sealF_length key data text
  have hcl := encS_length key text
  have e1 : seg (sealF key data text) 0 ((sealF key data text).length - 32) = encS key text := by
    rw [hl, seg_zero, show text.length + 32 - 32 = (encS key text).length by omega]
    unfold sealF
    exact List.take_left' rfl
  have e2 : seg (sealF key data text) ((sealF key data text).length - 32) (sealF key data text).length = tagF (k2F key) data (encS key text) := by
    unfold seg
    rw [List.take_length, hl, show text.length + 32 - 32 = (encS key text).length by omega]
    unfold sealF
    exact List.drop_left' rfl
  unfold openF
  rw [e1, e2, if_pos rfl, encS_twice]
end Go.Proofs.YthjkmhdgenmnoaaDoor
