/-
  PLAIN LAW OF KdfPads (own work): zeros behind a short key, the hash of a long one, parts however cut.
-/
import Derived.Test.YtjdgbahjpdopbaaDoorPAwake
import Derived.Test.YtjdgbahjpdopbaaDoorRKdfPads
namespace Go.Proofs.YtjdgbahjpdopbaaDoor
set_option linter.unusedSimpArgs false
set_option linter.unusedVariables false
set_option linter.unusedSectionVars false
open Go Go.LW

theorem mac1_ok {X Z : List Byte} (hx : X.length < 2305843009213693952) (hl : Z.length < 1152921504606846976) : kdf_Mac X [Z] (macL X Z) := by
  have := mac_ok (P := [Z]) hx (by simp) (by simpa using hl)
  simp only [List.flatten_cons, List.flatten_nil, List.append_nil] at this
  exact this
theorem macL_key {X Y Z : List Byte} (h : ∀ q, q < 64 → lit (keyK X) q = lit (keyK Y) q) : macL X Z = macL Y Z := by
  have e : ∀ x, padK X x = padK Y x := fun x => dl_congr fun q hq => by rw [h q hq]
  unfold macL; rw [e, e]
theorem eqB_self (m : Nat) (F : Nat → Byte) : eqB m F F = true := eqB_iff.2 fun _ _ => rfl
theorem lit_zeros (X : List Byte) (n q : Nat) : lit (X ++ List.replicate n 0#8) q = lit X q := by
  rw [lit_app]
  by_cases h : q < X.length
  · rw [if_pos h]
  · rw [if_neg h, lit_out (X := X) (by omega)]
    unfold lit
    rw [List.getD_eq_getElem?_getD, List.getElem?_replicate]
    split <;> rfl
theorem kdfPads_true (key : List Byte) (zeros : Int) (text : List Byte) (cut : Int) : lethelaw03_KdfPads key zeros text cut true := by
  refine ⟨_, awake_ok, ?_⟩
  rw [if_pos rfl]
  have hK := short_le key
  have hT := short_le text
  refine ⟨_, short_ok key, _, short_ok text, by omega, ?_⟩
  generalize key.take 400 = K at hK ⊢
  generalize text.take 400 = T at hT ⊢
  obtain ⟨k, hk, hr⟩ := rest_ok cut (m := T.length + 1) (by omega) (by omega)
  refine ⟨_, hr, _, mac1_ok (by omega) (by omega), by omega, by omega, by omega, by omega, ?_⟩
  rw [show ((k : Nat) : Int).toNat = k from rfl]
  have e : [seg T 0 k, seg T k T.length].flatten = T := by
    simp only [List.flatten_cons, List.flatten_nil, List.append_nil]
    rw [seg_app ⟨by omega, by omega, Nat.le_refl _⟩, seg_all]
  have hm := mac_ok (X := K) (P := [seg T 0 k, seg T k T.length]) (by omega) (by simp) (by rw [e]; omega)
  rw [e] at hm
  refine ⟨_, hm, ?_⟩
  rw [if_pos (eqB_self _ _)]
  by_cases h : 64 < K.length
  · rw [if_pos h]
    have hs := sum_ok (P := [K]) (by simp) (by simp only [List.flatten_cons, List.flatten_nil, List.append_nil]; omega)
    simp only [List.flatten_cons, List.flatten_nil, List.append_nil] at hs
    refine ⟨_, hs, _, mac1_ok (by rw [dl_length]; decide) (by omega), ?_⟩
    rw [macL_key (X := dl 32 (shaL K)) (Y := K) (fun q _ => by unfold keyK; rw [if_pos h, if_neg (by rw [dl_length]; omega)]), eqB_self]
  · rw [if_neg h]
    obtain ⟨z, hz, hr2⟩ := rest_ok zeros (m := 65 - K.length) (by omega) (by omega)
    refine ⟨by omega, _, hr2, by omega, by simp only [List.nil_append]; omega, ?_⟩
    rw [show ((z : Nat) : Int).toNat = z from rfl, List.nil_append]
    have hl : (K ++ List.replicate z 0#8).length = K.length + z := by rw [List.length_append, List.length_replicate]
    refine ⟨_, mac1_ok (by omega) (by omega), ?_⟩
    rw [macL_key (X := K ++ List.replicate z 0#8) (Y := K) (fun q _ => by unfold keyK; rw [if_neg h, if_neg (by omega), lit_zeros]), if_pos (eqB_self _ _)]
    refine ⟨_, extract_ok (by decide) (by omega), _, extract_ok (by decide) (by omega), ?_⟩
    rw [macL_key (X := List.replicate 32 0#8) (Y := []) (fun q _ => by unfold keyK; rw [if_neg (by decide), if_neg (by decide), ← lit_zeros [] 32, List.nil_append]), eqB_self]
end Go.Proofs.YtjdgbahjpdopbaaDoor
