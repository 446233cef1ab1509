/-
  RELATIONS of the package's functions, printed by this session's own program (auto.py).
-/
import Derived.Test.YtjblfkmmbpcpaaaDoorEb
import Derived.Test.YtjblfkmmbpcpaaaDoorFldT
import Derived.Test.YtjblfkmmbpcpaaaDoorRBits
namespace Go.Proofs.YtjblfkmmbpcpaaaDoor
set_option linter.unusedSimpArgs false
set_option linter.unusedVariables false
set_option linter.unusedSectionVars false
open Go Go.LW

def field_word_l0 (b1 : Nat → BitVec 8) (i_2 : Int) (s : ((BitVec 64) × Int)) (o35 : ((BitVec 64) × Int) ⊕ (BitVec 64)) : Prop :=
  match s with
  | (x_32, k33) =>
    if 0 ≤ k33 then (
      (-9223372036854775808 ≤ (i_2 + k33) ∧ (i_2 + k33) ≤ 9223372036854775807) ∧
      (0 ≤ (i_2 + k33) ∧ (i_2 + k33) < 32) ∧
      (-9223372036854775808 ≤ (k33 - 1) ∧ (k33 - 1) ≤ 9223372036854775807) ∧
      o35 = .inl (((x_32 <<< 8) ||| ((b1 ((i_2 + k33).toNat)).setWidth 64)), (k33 - 1))
    ) else (
      o35 = .inr x_32
    )
def field_word (b1 : Nat → BitVec 8) (i_2 : Int) (r : (BitVec 64)) : Prop :=
  ∃ x_34 : BitVec 64, Iter (field_word_l0 b1 i_2) (0#64, 7) x_34 ∧
  r = x_34

def field_Read (b1 : Nat → BitVec 8) (r : (Nat → BitVec 64)) : Prop :=
  ∃ x_8 : BitVec 64, field_word b1 0 x_8 ∧
  ∃ x_11 : BitVec 64, field_word b1 6 x_11 ∧
  ∃ x_14 : BitVec 64, field_word b1 12 x_14 ∧
  ∃ x_17 : BitVec 64, field_word b1 19 x_17 ∧
  ∃ x_20 : BitVec 64, field_word b1 24 x_20 ∧
  r = (lit [(x_8 &&& (2251799813685247#64)), ((x_11 >>> 3) &&& (2251799813685247#64)), ((x_14 >>> 6) &&& (2251799813685247#64)), ((x_17 >>> 1) &&& (2251799813685247#64)), ((x_20 >>> 12) &&& (2251799813685247#64))])

def field_long_plus (xhi1 : BitVec 64) (xlo2 : BitVec 64) (a3 : BitVec 64) (b4 : BitVec 64) (r : ((BitVec 64) × (BitVec 64))) : Prop :=
  ∃ x_10 : BitVec 64, ∃ x_11 : BitVec 64, bits_Mul64 a3 b4 (x_10, x_11) ∧
  ((BitVec.ofNat 64 ((xlo2.toNat + x_11.toNat + (0#64).toNat) / 2 ^ 64)).toNat ≤ 1) ∧
  r = ((xhi1 + x_10 + (BitVec.ofNat 64 ((xlo2.toNat + x_11.toNat + (0#64).toNat) / 2 ^ 64))), (xlo2 + x_11 + (0#64)))

def field_limbs_carried_l0  (s : ((BitVec 64) × Nat × (Nat → BitVec 64))) (o34 : ((BitVec 64) × Nat × (Nat → BitVec 64)) ⊕ ((BitVec 64) × (Nat → BitVec 64))) : Prop :=
  match s with
  | (c29, t30, m31) =>
    if t30 < 5 then (
      o34 = .inl ((((upd m31 t30 ((m31 t30) + c29)) t30) >>> 51), (t30 + 1), (upd (upd m31 t30 ((m31 t30) + c29)) t30 (((upd m31 t30 ((m31 t30) + c29)) t30) &&& (2251799813685247#64))))
    ) else (
      o34 = .inr (c29, m31)
    )
def field_limbs_carried (l_1 : Nat → BitVec 64) (r : (Nat → BitVec 64)) : Prop :=
  ∃ c32 : BitVec 64, ∃ m33 : Nat → BitVec 64, Iter (field_limbs_carried_l0) (0#64, 0, l_1) (c32, m33) ∧
  r = (upd m33 0 ((m33 0) + ((19#64) * c32)))

def field_Elem_Mul_l1 (al1 : Nat → BitVec 64) (bl2 : Nat → BitVec 64) (t161 : Nat) (s : (Nat × (Nat → BitVec 64))) (o217 : (Nat × (Nat → BitVec 64)) ⊕ (Nat → BitVec 64)) : Prop :=
  match s with
  | (t214, m215) =>
    if t214 < 5 then (
      ∃ y228 : BitVec 64, (
        if 5 ≤ (t161 + t214) then (
          y228 = ((bl2 t214) * (19#64))
        ) else (
          y228 = (bl2 t214)
        )
      ) ∧
      ∃ x_235 : BitVec 64, ∃ x_236 : BitVec 64, field_long_plus (m215 ((((t161 + t214) % 5) * 2) + 0)) (m215 ((((t161 + t214) % 5) * 2) + 1)) (al1 t161) y228 (x_235, x_236) ∧
      o217 = .inl ((t214 + 1), (spl m215 (((t161 + t214) % 5) * 2) 2 (lit [x_235, x_236])))
    ) else (
      o217 = .inr m215
    )
def field_Elem_Mul_l0 (al1 : Nat → BitVec 64) (bl2 : Nat → BitVec 64) (s : (Nat × (Nat → BitVec 64))) (o164 : (Nat × (Nat → BitVec 64)) ⊕ (Nat → BitVec 64)) : Prop :=
  match s with
  | (t161, m162) =>
    if t161 < 5 then (
      ∃ m216 : Nat → BitVec 64, Iter (field_Elem_Mul_l1 al1 bl2 t161) (0, m162) m216 ∧
      o164 = .inl ((t161 + 1), m216)
    ) else (
      o164 = .inr m162
    )
def field_Elem_Mul_l2 (m163 : Nat → BitVec 64) (s : ((BitVec 64) × Nat × (Nat → BitVec 64))) (o277 : ((BitVec 64) × Nat × (Nat → BitVec 64)) ⊕ ((BitVec 64) × (Nat → BitVec 64))) : Prop :=
  match s with
  | (c272, t273, m274) =>
    if t273 < 5 then (
      o277 = .inl (((((m163 (t273 * 2 + 0)) + (BitVec.ofNat 64 (((m163 (t273 * 2 + 1)).toNat + c272.toNat + (0#64).toNat) / 2 ^ 64))) <<< 13) ||| (((m163 (t273 * 2 + 1)) + c272 + (0#64)) >>> 51)), (t273 + 1), (upd m274 t273 (((m163 (t273 * 2 + 1)) + c272 + (0#64)) &&& (2251799813685247#64))))
    ) else (
      o277 = .inr (c272, m274)
    )
def field_Elem_Mul (al1 : Nat → BitVec 64) (bl2 : Nat → BitVec 64) (r : (Nat → BitVec 64)) : Prop :=
  ∃ m163 : Nat → BitVec 64, Iter (field_Elem_Mul_l0 al1 bl2) (0, (fun _ => 0#64)) m163 ∧
  ∃ c275 : BitVec 64, ∃ m276 : Nat → BitVec 64, Iter (field_Elem_Mul_l2 m163) (0#64, 0, (fun _ => 0#64)) (c275, m276) ∧
  ∃ x_297 : Nat → BitVec 64, field_limbs_carried (upd m276 0 ((m276 0) + ((19#64) * c275))) x_297 ∧
  r = x_297

def field_Elem_Square (al1 : Nat → BitVec 64) (r : (Nat → BitVec 64)) : Prop :=
  ∃ x_7 : Nat → BitVec 64, field_Elem_Mul al1 al1 x_7 ∧
  r = x_7

def field_exponent_l0  (s : (Nat × (Nat → BitVec 8))) (o26 : (Nat × (Nat → BitVec 8)) ⊕ (Nat → BitVec 8)) : Prop :=
  match s with
  | (t23, m24) =>
    if t23 < 32 then (
      o26 = .inl ((t23 + 1), (upd m24 t23 (255#8)))
    ) else (
      o26 = .inr m24
    )
def field_exponent (first1 : BitVec 8) (last2 : BitVec 8) (r : (Nat → BitVec 8)) : Prop :=
  ∃ m25 : Nat → BitVec 8, Iter (field_exponent_l0) (0, (fun _ => 0#8)) m25 ∧
  r = (upd (upd m25 0 first1) 31 last2)

def field_Small (n_1 : BitVec 32) (r : (Nat → BitVec 64)) : Prop :=
  r = (upd (fun _ => 0#64) 0 (n_1.setWidth 64))

def field_Elem_Pow_l0 (al1 : Nat → BitVec 64) (n_2 : Nat → BitVec 8) (s : (Int × (Nat → BitVec 64))) (o77 : (Int × (Nat → BitVec 64)) ⊕ (Nat → BitVec 64)) : Prop :=
  match s with
  | (bit74, m75) =>
    if 0 ≤ bit74 then (
      ∃ x_85 : Nat → BitVec 64, field_Elem_Square m75 x_85 ∧
      (-9223372036854775808 ≤ (bit74.tdiv 8) ∧ (bit74.tdiv 8) ≤ 9223372036854775807) ∧
      (0 ≤ (bit74.tdiv 8) ∧ (bit74.tdiv 8) < 32) ∧
      (0 ≤ (bit74.tmod 8)) ∧
      if (((n_2 ((bit74.tdiv 8).toNat)) >>> ((bit74.tmod 8).toNat)) &&& (1#8)) = 1#8 then (
        ∃ x_95 : Nat → BitVec 64, field_Elem_Mul x_85 al1 x_95 ∧
        (-9223372036854775808 ≤ (bit74 - 1) ∧ (bit74 - 1) ≤ 9223372036854775807) ∧
        o77 = .inl ((bit74 - 1), x_95)
      ) else (
        (-9223372036854775808 ≤ (bit74 - 1) ∧ (bit74 - 1) ≤ 9223372036854775807) ∧
        o77 = .inl ((bit74 - 1), x_85)
      )
    ) else (
      o77 = .inr m75
    )
def field_Elem_Pow (al1 : Nat → BitVec 64) (n_2 : Nat → BitVec 8) (r : (Nat → BitVec 64)) : Prop :=
  ∃ x_9 : Nat → BitVec 64, field_Small (1#32) x_9 ∧
  ∃ m76 : Nat → BitVec 64, Iter (field_Elem_Pow_l0 al1 n_2) (255, x_9) m76 ∧
  r = m76

def field_Elem_Bytes_l0 (x_10 : Nat → BitVec 64) (s : ((BitVec 64) × Nat)) (o30 : ((BitVec 64) × Nat) ⊕ (BitVec 64)) : Prop :=
  match s with
  | (q_27, i_28) =>
    if i_28 < 5 then (
      o30 = .inl ((((x_10 i_28) + q_27) >>> 51), (i_28 + 1))
    ) else (
      o30 = .inr q_27
    )
def field_Elem_Bytes_l1  (s : (Nat × (Nat → BitVec 64))) (o65 : (Nat × (Nat → BitVec 64)) ⊕ (Nat → BitVec 64)) : Prop :=
  match s with
  | (t62, m63) =>
    if t62 < 4 then (
      o65 = .inl ((t62 + 1), (upd (upd m63 (t62 + 1) ((m63 (t62 + 1)) + ((m63 t62) >>> 51))) t62 (((upd m63 (t62 + 1) ((m63 (t62 + 1)) + ((m63 t62) >>> 51))) t62) &&& (2251799813685247#64))))
    ) else (
      o65 = .inr m63
    )
def field_Elem_Bytes_l2 (m64 : Nat → BitVec 64) (s : (Nat × (Nat → BitVec 8))) (o102 : (Nat × (Nat → BitVec 8)) ⊕ (Nat → BitVec 8)) : Prop :=
  match s with
  | (t99, m100) =>
    if t99 < 255 then (
      o102 = .inl ((t99 + 1), (upd m100 (t99 / 8) ((m100 (t99 / 8)) ||| ((((((upd m64 4 ((m64 4) &&& (2251799813685247#64))) (t99 / 51)) >>> (t99 % 51)) &&& (1#64)).setWidth 8) <<< (t99 % 8)))))
    ) else (
      o102 = .inr m100
    )
def field_Elem_Bytes (al1 : Nat → BitVec 64) (r : (Nat → BitVec 8)) : Prop :=
  ∃ x_7 : Nat → BitVec 64, field_limbs_carried al1 x_7 ∧
  ∃ x_10 : Nat → BitVec 64, field_limbs_carried x_7 x_10 ∧
  ∃ q_29 : BitVec 64, Iter (field_Elem_Bytes_l0 x_10) ((((x_10 0) + (19#64)) >>> 51), 1) q_29 ∧
  ∃ m64 : Nat → BitVec 64, Iter (field_Elem_Bytes_l1) (0, (upd x_10 0 ((x_10 0) + ((19#64) * q_29)))) m64 ∧
  ∃ m101 : Nat → BitVec 8, Iter (field_Elem_Bytes_l2 m64) (0, (fun _ => 0#8)) m101 ∧
  r = m101

def field_Elem_Equal (al1 : Nat → BitVec 64) (bl2 : Nat → BitVec 64) (r : Bool) : Prop :=
  ∃ x_9 : Nat → BitVec 8, field_Elem_Bytes al1 x_9 ∧
  ∃ x_12 : Nat → BitVec 8, field_Elem_Bytes bl2 x_12 ∧
  r = (eqB 32 x_9 x_12)

def field_Elem_Sub_l0 (bl2 : Nat → BitVec 64) (s : (Nat × (Nat → BitVec 64))) (o28 : (Nat × (Nat → BitVec 64)) ⊕ (Nat → BitVec 64)) : Prop :=
  match s with
  | (t25, m26) =>
    if t25 < 5 then (
      o28 = .inl ((t25 + 1), (upd m26 t25 ((m26 t25) + ((twice5 t25) - (bl2 t25)))))
    ) else (
      o28 = .inr m26
    )
def field_Elem_Sub (al1 : Nat → BitVec 64) (bl2 : Nat → BitVec 64) (r : (Nat → BitVec 64)) : Prop :=
  ∃ m27 : Nat → BitVec 64, Iter (field_Elem_Sub_l0 bl2) (0, al1) m27 ∧
  ∃ x_41 : Nat → BitVec 64, field_limbs_carried m27 x_41 ∧
  r = x_41

def field_Elem_Root (al1 : Nat → BitVec 64) (r : ((Nat → BitVec 64) × Bool)) : Prop :=
  ∃ x_9 : Nat → BitVec 8, field_exponent (254#8) (15#8) x_9 ∧
  ∃ x_13 : Nat → BitVec 64, field_Elem_Pow al1 x_9 x_13 ∧
  ∃ m41 : Nat → BitVec 64, (
    ∃ x_46 : Nat → BitVec 64, field_Elem_Square x_13 x_46 ∧
    ∃ x_49 : Bool, field_Elem_Equal x_46 al1 x_49 ∧
    if x_49 = true then (
      m41 = x_13
    ) else (
      ∃ x_54 : Nat → BitVec 64, field_Small (2#32) x_54 ∧
      ∃ x_57 : Nat → BitVec 8, field_exponent (251#8) (31#8) x_57 ∧
      ∃ x_60 : Nat → BitVec 64, field_Elem_Pow x_54 x_57 x_60 ∧
      ∃ x_63 : Nat → BitVec 64, field_Elem_Mul x_13 x_60 x_63 ∧
      m41 = x_63
    )
  ) ∧
  ∃ x_71 : Nat → BitVec 64, field_Elem_Square m41 x_71 ∧
  ∃ x_74 : Bool, field_Elem_Equal x_71 al1 x_74 ∧
  if x_74 = true then (
    ∃ m87 : Nat → BitVec 64, (
      ∃ x_91 : Nat → BitVec 8, field_Elem_Bytes m41 x_91 ∧
      if ((x_91 0) &&& (1#8)) = 1#8 then (
        ∃ x_95 : Nat → BitVec 64, field_Elem_Sub (fun _ => 0#64) m41 x_95 ∧
        m87 = x_95
      ) else (
        m87 = m41
      )
    ) ∧
    r = (m87, true)
  ) else (
    r = ((fun _ => 0#64), false)
  )

def field_Elem_Add_l0 (bl2 : Nat → BitVec 64) (s : (Nat × (Nat → BitVec 64))) (o28 : (Nat × (Nat → BitVec 64)) ⊕ (Nat → BitVec 64)) : Prop :=
  match s with
  | (t25, m26) =>
    if t25 < 5 then (
      o28 = .inl ((t25 + 1), (upd m26 t25 ((m26 t25) + (bl2 t25))))
    ) else (
      o28 = .inr m26
    )
def field_Elem_Add (al1 : Nat → BitVec 64) (bl2 : Nat → BitVec 64) (r : (Nat → BitVec 64)) : Prop :=
  ∃ m27 : Nat → BitVec 64, Iter (field_Elem_Add_l0 bl2) (0, al1) m27 ∧
  ∃ x_41 : Nat → BitVec 64, field_limbs_carried m27 x_41 ∧
  r = x_41

def field_Fits (b1 : Nat → BitVec 8) (r : Bool) : Prop :=
  ∃ x_7 : Nat → BitVec 64, field_Read b1 x_7 ∧
  ∃ x_10 : Nat → BitVec 8, field_Elem_Bytes x_7 x_10 ∧
  r = (eqB 32 x_10 b1)

def field_Elem_Inv (al1 : Nat → BitVec 64) (r : (Nat → BitVec 64)) : Prop :=
  ∃ x_8 : Nat → BitVec 8, field_exponent (235#8) (127#8) x_8 ∧
  ∃ x_11 : Nat → BitVec 64, field_Elem_Pow al1 x_8 x_11 ∧
  r = x_11

def field_Swap (bit1 : Int) (al2 : Nat → BitVec 64) (bl3 : Nat → BitVec 64) (r : ((Nat → BitVec 64) × (Nat → BitVec 64))) : Prop :=
  if (bit1 % 2) = 1 then (
    r = (bl3, al2)
  ) else (
    r = (al2, bl3)
  )
end Go.Proofs.YtjblfkmmbpcpaaaDoor
