/-
  PLAIN LAW OF FieldExact (own work): behind every step each element is the document's number.
-/
import Derived.Test.YtjblfkmmbpcpaaaDoorPm
import Derived.Test.YtjblfkmmbpcpaaaDoorRFieldExact
namespace Go.Proofs.YtjblfkmmbpcpaaaDoor
set_option linter.unusedSimpArgs false
set_option linter.unusedVariables false
set_option linter.unusedSectionVars false
open Go Go.LW
set_option maxRecDepth 10000

theorem rp_congr {l l' : F5} {x : Fp} (h : ∀ q, q < 5 → l q = l' q) (hl : Rp l x) : Rp l' x := by
  refine ⟨fun q hq => by rw [← h q hq]; exact hl.1 q hq, ?_⟩
  rw [← hl.2]
  unfold val
  rw [h 0 (by decide), h 1 (by decide), h 2 (by decide), h 3 (by decide), h 4 (by decide)]
theorem r6_congr {t t' : Nat → Int} {x : Fp} (h : ∀ q, q < 16 → t q = t' q) (ht : R6 t x) : R6 t' x :=
  ⟨fun i hi => by rw [← h i hi]; exact ht.1 i hi, by rw [← vf_congr 16 h]; exact ht.2⟩
/-- four elements beside the document's numbers -/
def T6 (tp : Nat → BitVec 64) (tr : Nat → Int) : Prop := ∀ c, c < 4 → ∃ x : Fp, Rp (fun q => tp (c * 5 + q)) x ∧ R6 (fun q => tr (c * 16 + q)) x
theorem T6.put {tp : Nat → BitVec 64} {tr : Nat → Int} (h : T6 tp tr) {c : Nat} (_ : c < 4) {l : F5} {t : Nat → Int} {x : Fp} (hl : Rp l x) (ht : R6 t x) : T6 (spl tp (c * 5) 5 l) (spl tr (c * 16) 16 t) := fun c' hc' => by
  by_cases e : c' = c
  · subst e
    refine ⟨x, rp_congr (fun q hq => ?_) hl, r6_congr (fun q hq => ?_) ht⟩
    · rw [spl_in _ _ _ _ _ (by omega)]; congr 1; omega
    · rw [spl_in _ _ _ _ _ (by omega)]; congr 1; omega
  · obtain ⟨y, y1, y2⟩ := h c' hc'
    refine ⟨y, rp_congr (fun q hq => ?_) y1, r6_congr (fun q hq => ?_) y2⟩
    · rw [spl_out _ _ _ _ _ (by omega)]
    · rw [spl_out _ _ _ _ _ (by omega)]
theorem rest6 (n : Int) : ∃ k : Nat, k < 4 ∧ lethelaw06_rest n 4 (k : Int) := by
  have h1 := tmod_bd n (c := 4) (by decide)
  have h2 : 0 ≤ n.tmod 4 + 4 := by omega
  refine ⟨((n.tmod 4 + 4).tmod 4).toNat, ?_, by decide, by omega, by decide, ?_⟩
  · rw [Int.tmod_eq_emod_of_nonneg h2]; omega
  · rw [Int.tmod_eq_emod_of_nonneg h2]; omega
theorem eqB_of {a b : Nat → BitVec 8} (h : numB a 32 = numB b 32) : eqB 32 a b = true := eqB_iff.2 fun q hq => by
  apply BitVec.eq_of_toNat_eq
  rw [byte_num a hq, byte_num b hq, h]
theorem fitsb (b : Nat → BitVec 8) : field_Fits b (decide (numB b 32 < p255)) := by
  refine ⟨_, read_ok b, _, bytes_ok _, ?_⟩
  have hb : numB (bytesF (readF b)) 32 = (ofB b).val := rp_bytes (rp_read b)
  have hv : (ofB b).val = numB b 32 % 2 ^ 255 % p255 := rfl
  have hp : p255 < 2 ^ 255 := by decide
  rw [Bool.eq_iff_iff, decide_eq_true_iff]
  constructor
  · intro h
    exact eqB_of (by rw [hb, hv, Nat.mod_eq_of_lt (show numB b 32 < 2 ^ 255 by omega), Nat.mod_eq_of_lt h])
  · intro h
    have h1 : numB (bytesF (readF b)) 32 = numB b 32 := numB_congr' 32 (eqB_iff.1 h)
    rw [hb] at h1
    rw [← h1]; exact (ofB b).isLt
section
variable {tp : Nat → BitVec 64} {tr : Nat → Int} {slow : Int}
theorem powers6 (h : T6 tp tr) (hs : 0 ≤ slow ∧ slow ≤ 1000) (kind A B C : Int) (K : Nat → BitVec 8) (N : BitVec 32) (bit : Int) :
    ∃ tp' tr', lethelaw06_table_powers tp tr slow kind A B C K N bit (true, tp', tr', slow + 1) ∧ T6 tp' tr' := by
  obtain ⟨a, ha, ra⟩ := rest6 A
  obtain ⟨c, hc, rc⟩ := rest6 C
  obtain ⟨x, x1, x2⟩ := h a ha
  unfold lethelaw06_table_powers
  by_cases h0 : 4 < slow + 1
  · exact ⟨tp, tr, ⟨_, ra, _, rc, by omega, by rw [if_pos h0]⟩, h⟩
  by_cases h7 : kind = 7
  · obtain ⟨p, p1, p2⟩ := pow_rp x1 K
    obtain ⟨r, r1, r2⟩ := pow6 x2 K
    exact ⟨_, _, ⟨_, ra, _, rc, by omega, by rw [if_neg h0, if_pos h7]; exact ⟨by omega, by omega, p, p1, r, r1, by omega, by omega, rfl⟩⟩, h.put hc p2 r2⟩
  by_cases h8 : kind = 8
  · obtain ⟨p, p1, p2⟩ := inv_rp x1
    obtain ⟨r, r1, r2⟩ := inv6 x2
    exact ⟨_, _, ⟨_, ra, _, rc, by omega, by rw [if_neg h0, if_neg h7, if_pos h8]; exact ⟨by omega, by omega, p, p1, r, r1, by omega, by omega, rfl⟩⟩, h.put hc p2 r2⟩
  by_cases h9 : kind = 9
  · obtain ⟨p, p1, p2⟩ := root_rp x1
    obtain ⟨r, r1, r2⟩ := sqrt6 x2
    exact ⟨_, _, ⟨_, ra, _, rc, by omega, by rw [if_neg h0, if_neg h7, if_neg h8, if_pos h9]; exact ⟨by omega, p, _, p1, by omega, r, _, r1, by omega, by omega, by rw [beq_self_eq_true]; rfl⟩⟩, h.put hc p2 r2⟩
  exact ⟨tp, tr, ⟨_, ra, _, rc, by omega, by rw [if_neg h0, if_neg h7, if_neg h8, if_neg h9]⟩, h⟩
theorem plays6 (h : T6 tp tr) (hs : 0 ≤ slow ∧ slow ≤ 1000) (kind A B C : Int) (K : Nat → BitVec 8) (N : BitVec 32) (bit : Int) :
    ∃ tp' tr' slow', lethelaw06_table_plays tp tr slow kind A B C K N bit (true, tp', tr', slow') ∧ T6 tp' tr' ∧ 0 ≤ slow' ∧ slow' ≤ slow + 1 := by
  obtain ⟨a, ha, ra⟩ := rest6 A
  obtain ⟨b, hb, rb⟩ := rest6 B
  obtain ⟨c, hc, rc⟩ := rest6 C
  obtain ⟨x, x1, x2⟩ := h a ha
  obtain ⟨y, y1, y2⟩ := h b hb
  unfold lethelaw06_table_plays
  by_cases k1 : kind = 1
  · obtain ⟨r, r1, r2⟩ := from6 K
    exact ⟨_, _, slow, ⟨_, ra, _, rb, _, rc, by rw [if_pos k1]; exact ⟨_, read_ok K, r, r1, by omega, by omega, _, fitsb K, _, fits6 K, by rw [beq_self_eq_true]; rfl⟩⟩, h.put hc (rp_read K) r2, hs.1, by omega⟩
  by_cases k2 : kind = 2
  · obtain ⟨r, r1, r2⟩ := int6 (N.setWidth 64)
    have e : (N.setWidth 64).toNat = N.toNat := by rw [BitVec.toNat_setWidth, Nat.mod_eq_of_lt (by have := N.isLt; omega)]
    rw [e] at r2
    exact ⟨_, _, slow, ⟨_, ra, _, rb, _, rc, by rw [if_neg k1, if_pos k2]; exact ⟨_, small_ok N, r, r1, by omega, by omega, rfl⟩⟩, h.put hc (rp_small N) r2, hs.1, by omega⟩
  by_cases k3 : kind = 3
  · obtain ⟨r, r1, r2⟩ := add6 x2 y2
    exact ⟨_, _, slow, ⟨_, ra, _, rb, _, rc, by rw [if_neg k1, if_neg k2, if_pos k3]; exact ⟨by omega, by omega, by omega, by omega, _, add_ok _ _, r, r1, by omega, by omega, rfl⟩⟩, h.put hc (rp_add x1 y1) r2, hs.1, by omega⟩
  by_cases k4 : kind = 4
  · obtain ⟨r, r1, r2⟩ := sub6 x2 y2
    exact ⟨_, _, slow, ⟨_, ra, _, rb, _, rc, by rw [if_neg k1, if_neg k2, if_neg k3, if_pos k4]; exact ⟨by omega, by omega, by omega, by omega, _, sub_ok _ _, r, r1, by omega, by omega, rfl⟩⟩, h.put hc (rp_sub x1 y1) r2, hs.1, by omega⟩
  by_cases k5 : kind = 5
  · obtain ⟨r, r1, r2⟩ := mul6 x2 y2
    exact ⟨_, _, slow, ⟨_, ra, _, rb, _, rc, by rw [if_neg k1, if_neg k2, if_neg k3, if_neg k4, if_pos k5]; exact ⟨by omega, by omega, by omega, by omega, _, mul_ok _ _, r, r1, by omega, by omega, rfl⟩⟩, h.put hc (rp_mul x1 y1) r2, hs.1, by omega⟩
  by_cases k6 : kind = 6
  · obtain ⟨r, r1, r2⟩ := mul6 x2 x2
    exact ⟨_, _, slow, ⟨_, ra, _, rb, _, rc, by rw [if_neg k1, if_neg k2, if_neg k3, if_neg k4, if_neg k5, if_pos k6]; exact ⟨by omega, by omega, by omega, _, sq_ok _, r, r1, by omega, by omega, rfl⟩⟩, h.put hc (rp_mul x1 x1) r2, hs.1, by omega⟩
  by_cases k789 : kind = 7 ∨ kind = 8 ∨ kind = 9
  · obtain ⟨tp', tr', p1, p2⟩ := powers6 h hs kind A B C K N bit
    refine ⟨tp', tr', slow + 1, ⟨_, ra, _, rb, _, rc, ?_⟩, p2, by omega, by omega⟩
    rw [if_neg k1, if_neg k2, if_neg k3, if_neg k4, if_neg k5, if_neg k6]
    refine ⟨true, ?_, by rw [if_pos rfl]; exact ⟨_, _, _, _, p1, rfl⟩⟩
    by_cases k7 : kind = 7
    · rw [if_pos k7, decide_eq_true k7]
    · rw [if_neg k7]
      by_cases k8 : kind = 8
      · rw [if_pos k8, decide_eq_true k8]
      · rw [if_neg k8, decide_eq_true (by omega : kind = 9)]
  have hf : ∃ t145 : Bool, (if kind = 7 then t145 = (decide (kind = 7)) else (if kind = 8 then t145 = (decide (kind = 8)) else t145 = (decide (kind = 9)))) ∧ t145 = false :=
    ⟨false, by rw [if_neg (by omega), if_neg (by omega), decide_eq_false (by omega)], rfl⟩
  obtain ⟨t145, f1, rfl⟩ := hf
  by_cases k10 : kind = 10
  · by_cases hbit : bit % 2 = 1
    · exact ⟨_, _, slow, ⟨_, ra, _, rb, _, rc, by
        rw [if_neg k1, if_neg k2, if_neg k3, if_neg k4, if_neg k5, if_neg k6]
        refine ⟨false, f1, ?_⟩
        rw [if_neg (by decide), if_pos k10]
        refine ⟨by omega, by omega, _, _, by unfold field_Swap; rw [if_pos hbit], by omega, by omega, ?_⟩
        rw [if_pos hbit]
        exact ⟨by omega, by omega, by omega, by omega, rfl⟩⟩, (h.put ha y1 y2).put hb x1 x2, hs.1, by omega⟩
    · refine ⟨_, tr, slow, ⟨_, ra, _, rb, _, rc, by
        rw [if_neg k1, if_neg k2, if_neg k3, if_neg k4, if_neg k5, if_neg k6]
        refine ⟨false, f1, ?_⟩
        rw [if_neg (by decide), if_pos k10]
        refine ⟨by omega, by omega, _, _, by unfold field_Swap; rw [if_neg hbit], by omega, by omega, ?_⟩
        rw [if_neg hbit]⟩, ?_, hs.1, by omega⟩
      intro c' hc'
      obtain ⟨z, z1, z2⟩ := (h.put ha x1 x2).put hb y1 y2 c' hc'
      refine ⟨z, z1, r6_congr (fun q hq => ?_) z2⟩
      show spl (spl tr (a * 16) 16 (fun q => tr (a * 16 + q))) (b * 16) 16 (fun q => tr (b * 16 + q)) (c' * 16 + q) = tr (c' * 16 + q)
      have same : ∀ (k j : Nat), spl tr k 16 (fun q => tr (k + q)) j = tr j := fun k j => by
        by_cases hj : k ≤ j ∧ j < k + 16
        · rw [spl_in _ _ _ _ _ hj]; congr 1; omega
        · rw [spl_out _ _ _ _ _ hj]
      have e : spl tr (a * 16) 16 (fun q => tr (a * 16 + q)) = tr := funext fun j => same _ j
      rw [e, same]
  by_cases k11 : kind = 11
  · exact ⟨tp, tr, slow, ⟨_, ra, _, rb, _, rc, by
      rw [if_neg k1, if_neg k2, if_neg k3, if_neg k4, if_neg k5, if_neg k6]
      refine ⟨false, f1, ?_⟩
      rw [if_neg (by decide), if_neg k10, if_pos k11]
      refine ⟨by omega, by omega, by omega, by omega, _, eq_ok x1 y1, ?_⟩
      have e := eqI6 x2 y2
      show _ = ((_ == eqI 16 (fun q => tr (a * 16 + q)) (fun q => tr (b * 16 + q))), tp, tr, slow)
      rw [e, beq_self_eq_true]⟩, h, hs.1, by omega⟩
  exact ⟨tp, tr, slow, ⟨_, ra, _, rb, _, rc, by
    rw [if_neg k1, if_neg k2, if_neg k3, if_neg k4, if_neg k5, if_neg k6]
    refine ⟨false, f1, ?_⟩
    rw [if_neg (by decide), if_neg k10, if_neg k11]⟩, h, hs.1, by omega⟩
theorem same6 (h : T6 tp tr) : lethelaw06_table_same tp tr slow true := by
  refine ⟨some (), ?_, fun _ => rfl⟩
  refine Iter.count (fun i => i) 4 (fun i hi => ?_) ?_
  · obtain ⟨x, x1, x2⟩ := h i hi
    unfold lethelaw06_table_same_l0
    rw [if_pos hi]
    refine ⟨_, bytes_ok _, _, bytes6 x2.1, ?_⟩
    rw [if_pos (eqB_of (by rw [rp_bytes x1, bytes6_num x2]))]
  · unfold lethelaw06_table_same_l0; rw [if_neg (by omega)]
end
theorem fieldExact_true (script : List (Int × Int × Int × Int × (Nat → BitVec 8) × (BitVec 32) × Int)) : lethelaw06_FieldExact script true := by
  have h0 : T6 (fun _ => 0#64) (fun _ => (0 : Int)) := fun c _ => ⟨0, rp_zero, fun i _ => ⟨Int.le_refl _, show (0 : Int) < 65536 by decide⟩, (show vf (fun _ => (0 : Int)) 16 = ((0 : Nat) : Int) by decide +kernel)⟩
  obtain ⟨r, hI, p, t, s, rfl, hT⟩ := iter6 (step := lethelaw06_FieldExact_l0 script true)
    (fun s : Nat × (Nat → BitVec 64) × (Nat → Int) × Int => T6 s.2.1 s.2.2.1 ∧ 0 ≤ s.2.2.2 ∧ s.2.2.2 ≤ (s.1 : Int) ∧ s.1 ≤ 60) (fun r => ∃ p t s, r = some (p, t, s) ∧ T6 p t) (fun s => 60 - s.1) (by
    rintro ⟨i, p, t, s⟩ ⟨hT, hs, hs2, hi⟩
    dsimp only at hT hs hs2 hi ⊢
    unfold lethelaw06_FieldExact_l0
    dsimp only
    by_cases h1 : i < script.length
    · by_cases h2 : i < 60
      · obtain ⟨p', t', s', q1, q2, q3, q4⟩ := plays6 hT ⟨hs, by omega⟩ ((script.getD i ((0 : Int), (0 : Int), (0 : Int), (0 : Int), (fun _ => 0#8), 0#32, (0 : Int))).1) ((script.getD i ((0 : Int), (0 : Int), (0 : Int), (0 : Int), (fun _ => 0#8), 0#32, (0 : Int))).2.1) ((script.getD i ((0 : Int), (0 : Int), (0 : Int), (0 : Int), (fun _ => 0#8), 0#32, (0 : Int))).2.2.1) ((script.getD i ((0 : Int), (0 : Int), (0 : Int), (0 : Int), (fun _ => 0#8), 0#32, (0 : Int))).2.2.2.1) ((script.getD i ((0 : Int), (0 : Int), (0 : Int), (0 : Int), (fun _ => 0#8), 0#32, (0 : Int))).2.2.2.2.1) ((script.getD i ((0 : Int), (0 : Int), (0 : Int), (0 : Int), (fun _ => 0#8), 0#32, (0 : Int))).2.2.2.2.2.1) ((script.getD i ((0 : Int), (0 : Int), (0 : Int), (0 : Int), (fun _ => 0#8), 0#32, (0 : Int))).2.2.2.2.2.2)
        refine .inr ⟨(i + 1, p', t', s'), ?_, ⟨q2, q3, by dsimp only; omega, by dsimp only; omega⟩, by dsimp only; omega⟩
        rw [if_pos h1, if_pos h2]
        refine ⟨h1, true, p', t', s', q1, ?_⟩
        rw [if_pos rfl]
        exact ⟨true, same6 q2, by rw [if_pos rfl]⟩
      · exact .inl ⟨_, by rw [if_pos h1, if_neg h2], p, t, s, rfl, hT⟩
    · exact .inl ⟨_, by rw [if_neg h1], p, t, s, rfl, hT⟩) 61 (0, (fun _ => 0#64), (fun _ => (0 : Int)), 0) (by decide) ⟨h0, Int.le_refl _, Int.le_refl _, by decide⟩
  refine ⟨_, hI, fun p' t' s' e => ?_⟩
  obtain ⟨rfl, e2⟩ := Prod.mk.inj (Option.some.inj e)
  obtain ⟨rfl, rfl⟩ := Prod.mk.inj e2
  obtain ⟨x, x1, x2⟩ := hT 0 (by decide)
  obtain ⟨y, y1, y2⟩ := hT 1 (by decide)
  refine ⟨true, same6 hT, ?_⟩
  rw [if_pos rfl]
  refine ⟨_, eq_ok x1 y1, ?_⟩
  have e := eqI6 x2 y2
  rw [e, beq_self_eq_true, if_pos rfl]
  refine ⟨_, small_ok _, _, bytes_ok _, ?_⟩
  refine (eqB_of ?_).symm
  rw [rp_bytes (rp_small 7#32), numB_single]
  decide +kernel
end Go.Proofs.YtjblfkmmbpcpaaaDoor
