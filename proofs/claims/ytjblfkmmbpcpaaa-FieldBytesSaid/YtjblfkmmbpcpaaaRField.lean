/-
  RELATIONS of the package's functions, printed by this session's own program (auto.py).
-/
import Derived.Test.YtjblfkmmbpcpaaaLx6
namespace Go.Proofs.Ytjblfkmmbpcpaaa
set_option linter.unusedSimpArgs false
set_option linter.unusedVariables false
set_option linter.unusedSectionVars false
open Go Go.LW

def field_word_l0 (b1 : Nat → BitVec 8) (i_2 : Int) (s : ((BitVec 64) × Int)) (o35 : ((BitVec 64) × Int) ⊕ (BitVec 64)) : Prop :=
  match s with
  | (x_32, k33) =>
    if 0 ≤ k33 then (
      (-9223372036854775808 ≤ (i_2 + k33) ∧ (i_2 + k33) ≤ 9223372036854775807) ∧
      (0 ≤ (i_2 + k33) ∧ (i_2 + k33) < 32) ∧
      (-9223372036854775808 ≤ (k33 - 1) ∧ (k33 - 1) ≤ 9223372036854775807) ∧
      o35 = .inl (((x_32 <<< 8) ||| ((b1 ((i_2 + k33).toNat)).setWidth 64)), (k33 - 1))
    ) else (
      o35 = .inr x_32
    )
def field_word (b1 : Nat → BitVec 8) (i_2 : Int) (r : (BitVec 64)) : Prop :=
  ∃ x_34 : BitVec 64, Iter (field_word_l0 b1 i_2) (0#64, 7) x_34 ∧
  r = x_34

def field_Read (b1 : Nat → BitVec 8) (r : (Nat → BitVec 64)) : Prop :=
  ∃ x_8 : BitVec 64, field_word b1 0 x_8 ∧
  ∃ x_11 : BitVec 64, field_word b1 6 x_11 ∧
  ∃ x_14 : BitVec 64, field_word b1 12 x_14 ∧
  ∃ x_17 : BitVec 64, field_word b1 19 x_17 ∧
  ∃ x_20 : BitVec 64, field_word b1 24 x_20 ∧
  r = (lit [(x_8 &&& (2251799813685247#64)), ((x_11 >>> 3) &&& (2251799813685247#64)), ((x_14 >>> 6) &&& (2251799813685247#64)), ((x_17 >>> 1) &&& (2251799813685247#64)), ((x_20 >>> 12) &&& (2251799813685247#64))])

def field_limbs_carried_l0  (s : ((BitVec 64) × Nat × (Nat → BitVec 64))) (o34 : ((BitVec 64) × Nat × (Nat → BitVec 64)) ⊕ ((BitVec 64) × (Nat → BitVec 64))) : Prop :=
  match s with
  | (c29, t30, m31) =>
    if t30 < 5 then (
      o34 = .inl ((((upd m31 t30 ((m31 t30) + c29)) t30) >>> 51), (t30 + 1), (upd (upd m31 t30 ((m31 t30) + c29)) t30 (((upd m31 t30 ((m31 t30) + c29)) t30) &&& (2251799813685247#64))))
    ) else (
      o34 = .inr (c29, m31)
    )
def field_limbs_carried (l_1 : Nat → BitVec 64) (r : (Nat → BitVec 64)) : Prop :=
  ∃ c32 : BitVec 64, ∃ m33 : Nat → BitVec 64, Iter (field_limbs_carried_l0) (0#64, 0, l_1) (c32, m33) ∧
  r = (upd m33 0 ((m33 0) + ((19#64) * c32)))

def field_Elem_Bytes_l0 (x_10 : Nat → BitVec 64) (s : ((BitVec 64) × Nat)) (o30 : ((BitVec 64) × Nat) ⊕ (BitVec 64)) : Prop :=
  match s with
  | (q_27, i_28) =>
    if i_28 < 5 then (
      o30 = .inl ((((x_10 i_28) + q_27) >>> 51), (i_28 + 1))
    ) else (
      o30 = .inr q_27
    )
def field_Elem_Bytes_l1  (s : (Nat × (Nat → BitVec 64))) (o65 : (Nat × (Nat → BitVec 64)) ⊕ (Nat → BitVec 64)) : Prop :=
  match s with
  | (t62, m63) =>
    if t62 < 4 then (
      o65 = .inl ((t62 + 1), (upd (upd m63 (t62 + 1) ((m63 (t62 + 1)) + ((m63 t62) >>> 51))) t62 (((upd m63 (t62 + 1) ((m63 (t62 + 1)) + ((m63 t62) >>> 51))) t62) &&& (2251799813685247#64))))
    ) else (
      o65 = .inr m63
    )
def field_Elem_Bytes_l2 (m64 : Nat → BitVec 64) (s : (Nat × (Nat → BitVec 8))) (o102 : (Nat × (Nat → BitVec 8)) ⊕ (Nat → BitVec 8)) : Prop :=
  match s with
  | (t99, m100) =>
    if t99 < 255 then (
      o102 = .inl ((t99 + 1), (upd m100 (t99 / 8) ((m100 (t99 / 8)) ||| ((((((upd m64 4 ((m64 4) &&& (2251799813685247#64))) (t99 / 51)) >>> (t99 % 51)) &&& (1#64)).setWidth 8) <<< (t99 % 8)))))
    ) else (
      o102 = .inr m100
    )
def field_Elem_Bytes (al1 : Nat → BitVec 64) (r : (Nat → BitVec 8)) : Prop :=
  ∃ x_7 : Nat → BitVec 64, field_limbs_carried al1 x_7 ∧
  ∃ x_10 : Nat → BitVec 64, field_limbs_carried x_7 x_10 ∧
  ∃ q_29 : BitVec 64, Iter (field_Elem_Bytes_l0 x_10) ((((x_10 0) + (19#64)) >>> 51), 1) q_29 ∧
  ∃ m64 : Nat → BitVec 64, Iter (field_Elem_Bytes_l1) (0, (upd x_10 0 ((x_10 0) + ((19#64) * q_29)))) m64 ∧
  ∃ m101 : Nat → BitVec 8, Iter (field_Elem_Bytes_l2 m64) (0, (fun _ => 0#8)) m101 ∧
  r = m101

def field_Fits (b1 : Nat → BitVec 8) (r : Bool) : Prop :=
  ∃ x_7 : Nat → BitVec 64, field_Read b1 x_7 ∧
  ∃ x_10 : Nat → BitVec 8, field_Elem_Bytes x_7 x_10 ∧
  r = (eqB 32 x_10 b1)

def field_Elem_Equal (al1 : Nat → BitVec 64) (bl2 : Nat → BitVec 64) (r : Bool) : Prop :=
  ∃ x_9 : Nat → BitVec 8, field_Elem_Bytes al1 x_9 ∧
  ∃ x_12 : Nat → BitVec 8, field_Elem_Bytes bl2 x_12 ∧
  r = (eqB 32 x_9 x_12)

def field_Small (n_1 : BitVec 32) (r : (Nat → BitVec 64)) : Prop :=
  r = (upd (fun _ => 0#64) 0 (n_1.setWidth 64))

def field_Swap (bit1 : Int) (al2 : Nat → BitVec 64) (bl3 : Nat → BitVec 64) (r : ((Nat → BitVec 64) × (Nat → BitVec 64))) : Prop :=
  if (bit1 % 2) = 1 then (
    r = (bl3, al2)
  ) else (
    r = (al2, bl3)
  )
end Go.Proofs.Ytjblfkmmbpcpaaa
