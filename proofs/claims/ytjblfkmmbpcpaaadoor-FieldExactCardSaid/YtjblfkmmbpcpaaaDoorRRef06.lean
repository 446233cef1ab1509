/-
  RELATIONS of the package's functions, printed by this session's own program (auto.py).
-/
import Derived.Test.YtjblfkmmbpcpaaaDoorEb
import Derived.Test.YtjblfkmmbpcpaaaDoorFldT
namespace Go.Proofs.YtjblfkmmbpcpaaaDoor
set_option linter.unusedSimpArgs false
set_option linter.unusedVariables false
set_option linter.unusedSectionVars false
open Go Go.LW

def letheref06_carries_l0 (d_1 : List Int) (r : Bool) (i_25 : Nat) (o26 : Nat ⊕ (Option Unit)) : Prop :=
  if i_25 < d_1.length then (
    (i_25 < d_1.length) ∧
    if 65536 ≤ (d_1.getD i_25 (0 : Int)) then (
      o26 = .inr none ∧ r = true
    ) else (
      ((i_25 + 1) < 9223372036854775808) ∧
      o26 = .inl (i_25 + 1)
    )
  ) else (
    o26 = .inr (some ())
  )
def letheref06_carries (d_1 : List Int) (r : Bool) : Prop :=
  ∃ x26 : Option Unit, Iter (letheref06_carries_l0 d_1 r) 0 x26 ∧ (x26 = some () →
  if d_1.length = 16 then (
    (15 < d_1.length) ∧
    r = (decide (32768 ≤ (d_1.getD 15 (0 : Int))))
  ) else (
    r = false
  )
  )

def letheref06_carried_l0 (d_1 : List Int) (s : ((List Int) × Int × Nat)) (o86 : ((List Int) × Int × Nat) ⊕ (List Int)) : Prop :=
  match s with
  | (out81, carry83, i_84) =>
    ∃ ok94 : Bool, (
      if i_84 < d_1.length then (
        ok94 = true
      ) else (
        if 0 < carry83 then (
          ok94 = true
        ) else (
          if out81.length < 16 then (
            ok94 = true
          ) else (
            (ok94 = false) ∧
            o86 = .inr out81
          )
        )
      )
    ) ∧
    (ok94 = true →
    ∃ v108 : Int, (
      if i_84 < d_1.length then (
        (i_84 < d_1.length) ∧
        (-9223372036854775808 ≤ (carry83 + (d_1.getD i_84 (0 : Int))) ∧ (carry83 + (d_1.getD i_84 (0 : Int))) ≤ 9223372036854775807) ∧
        v108 = (carry83 + (d_1.getD i_84 (0 : Int)))
      ) else (
        v108 = carry83
      )
    ) ∧
    ((out81.length + ([(v108.tmod 65536)] : List Int).length) * 8 ≤ 140737488355328 ∧ out81.length + ([(v108.tmod 65536)] : List Int).length < 9223372036854775808) ∧
    (-9223372036854775808 ≤ (v108.tdiv 65536) ∧ (v108.tdiv 65536) ≤ 9223372036854775807) ∧
    ((i_84 + 1) < 9223372036854775808) ∧
    o86 = .inl ((out81 ++ ([(v108.tmod 65536)] : List Int)), (v108.tdiv 65536), (i_84 + 1))
    )
def letheref06_carried (d_1 : List Int) (r : (List Int)) : Prop :=
  ∃ out85 : List Int, Iter (letheref06_carried_l0 d_1) (([] : List Int), 0, 0) out85 ∧
  r = out85

def letheref06_folded_l0 (d_1 : List Int) (s : (Nat × (List Int))) (o33 : (Nat × (List Int)) ⊕ (List Int)) : Prop :=
  match s with
  | (i_30, m31) =>
    if i_30 < 16 then (
      (i_30 < d_1.length) ∧
      (i_30 < m31.length) ∧
      o33 = .inl ((i_30 + 1), (m31.set i_30 (d_1.getD i_30 (0 : Int))))
    ) else (
      o33 = .inr m31
    )
def letheref06_folded_l2  (m488 : (List Int)) (o490 : (List Int) ⊕ (List Int)) : Prop :=
  if m488.length ≤ 0 then (
    ((m488.length + ([0] : List Int).length) * 8 ≤ 140737488355328 ∧ m488.length + ([0] : List Int).length < 9223372036854775808) ∧
    o490 = .inl (m488 ++ ([0] : List Int))
  ) else (
    o490 = .inr m488
  )
def letheref06_folded_l3 (i_409 : Nat) (m569 : (List Int)) (o571 : (List Int) ⊕ (List Int)) : Prop :=
  if ((m569.length : Nat) : Int) ≤ (((i_409 : Nat) : Int) - 16) then (
    ((m569.length + ([0] : List Int).length) * 8 ≤ 140737488355328 ∧ m569.length + ([0] : List Int).length < 9223372036854775808) ∧
    o571 = .inl (m569 ++ ([0] : List Int))
  ) else (
    o571 = .inr m569
  )
def letheref06_folded_l1 (d_1 : List Int) (s : (Nat × (List Int))) (o412 : (Nat × (List Int)) ⊕ (List Int)) : Prop :=
  match s with
  | (i_409, m410) =>
    if i_409 < d_1.length then (
      (i_409 < d_1.length) ∧
      if i_409 = 15 then (
        (15 < d_1.length) ∧
        (-9223372036854775808 ≤ ((d_1.getD 15 (0 : Int)).tdiv 32768) ∧ ((d_1.getD 15 (0 : Int)).tdiv 32768) ≤ 9223372036854775807) ∧
        (-9223372036854775808 ≤ (19 * ((d_1.getD 15 (0 : Int)).tdiv 32768)) ∧ (19 * ((d_1.getD 15 (0 : Int)).tdiv 32768)) ≤ 9223372036854775807) ∧
        ∃ m468 : List Int, (
          ∃ m489 : List Int, Iter (letheref06_folded_l2) m410 m489 ∧
          (0 < m489.length) ∧
          (-9223372036854775808 ≤ ((m489.getD 0 (0 : Int)) + (19 * ((d_1.getD 15 (0 : Int)).tdiv 32768))) ∧ ((m489.getD 0 (0 : Int)) + (19 * ((d_1.getD 15 (0 : Int)).tdiv 32768))) ≤ 9223372036854775807) ∧
          (0 < m489.length) ∧
          m468 = (m489.set 0 ((m489.getD 0 (0 : Int)) + (19 * ((d_1.getD 15 (0 : Int)).tdiv 32768))))
        ) ∧
        o412 = .inl ((i_409 + 1), m468)
      ) else (
        (-9223372036854775808 ≤ (((i_409 : Nat) : Int) - 16) ∧ (((i_409 : Nat) : Int) - 16) ≤ 9223372036854775807) ∧
        (-9223372036854775808 ≤ (38 * (d_1.getD i_409 (0 : Int))) ∧ (38 * (d_1.getD i_409 (0 : Int))) ≤ 9223372036854775807) ∧
        ∃ m549 : List Int, (
          ∃ m570 : List Int, Iter (letheref06_folded_l3 i_409) m410 m570 ∧
          (0 ≤ (((i_409 : Nat) : Int) - 16) ∧ (((i_409 : Nat) : Int) - 16) < m570.length) ∧
          (-9223372036854775808 ≤ ((m570.getD ((((i_409 : Nat) : Int) - 16).toNat) (0 : Int)) + (38 * (d_1.getD i_409 (0 : Int)))) ∧ ((m570.getD ((((i_409 : Nat) : Int) - 16).toNat) (0 : Int)) + (38 * (d_1.getD i_409 (0 : Int)))) ≤ 9223372036854775807) ∧
          (0 ≤ (((i_409 : Nat) : Int) - 16) ∧ (((i_409 : Nat) : Int) - 16) < m570.length) ∧
          m549 = (m570.set ((((i_409 : Nat) : Int) - 16).toNat) ((m570.getD ((((i_409 : Nat) : Int) - 16).toNat) (0 : Int)) + (38 * (d_1.getD i_409 (0 : Int)))))
        ) ∧
        ((i_409 + 1) < 9223372036854775808) ∧
        o412 = .inl ((i_409 + 1), m549)
      )
    ) else (
      o412 = .inr m410
    )
def letheref06_folded (d_1 : List Int) (r : (List Int)) : Prop :=
  ∃ m32 : List Int, Iter (letheref06_folded_l0 d_1) (0, (List.replicate 16 (0 : Int))) m32 ∧
  (15 < d_1.length) ∧
  (15 < m32.length) ∧
  ∃ m411 : List Int, Iter (letheref06_folded_l1 d_1) (15, (m32.set 15 ((d_1.getD 15 (0 : Int)).tmod 32768))) m411 ∧
  r = m411

def letheref06_prime_l0  (s : (Nat × (Nat → Int))) (o22 : (Nat × (Nat → Int)) ⊕ (Nat → Int)) : Prop :=
  match s with
  | (i_19, m20) =>
    if i_19 < 16 then (
      o22 = .inl ((i_19 + 1), (upd m20 i_19 65535))
    ) else (
      o22 = .inr m20
    )
def letheref06_prime  (r : (Nat → Int)) : Prop :=
  ∃ m21 : Nat → Int, Iter (letheref06_prime_l0) (0, (fun _ => (0 : Int))) m21 ∧
  r = (upd (upd m21 0 65517) 15 32767)

def letheref06_less_l0 (a1 : Nat → Int) (b2 : Nat → Int) (r : Bool) (i_47 : Int) (o48 : Int ⊕ (Option Unit)) : Prop :=
  if 0 ≤ i_47 then (
    (0 ≤ i_47 ∧ i_47 < 16) ∧
    (0 ≤ i_47 ∧ i_47 < 16) ∧
    if (a1 i_47.toNat) ≠ (b2 i_47.toNat) then (
      (0 ≤ i_47 ∧ i_47 < 16) ∧
      (0 ≤ i_47 ∧ i_47 < 16) ∧
      o48 = .inr none ∧ r = (decide ((a1 i_47.toNat) < (b2 i_47.toNat)))
    ) else (
      (-9223372036854775808 ≤ (i_47 - 1) ∧ (i_47 - 1) ≤ 9223372036854775807) ∧
      o48 = .inl (i_47 - 1)
    )
  ) else (
    o48 = .inr (some ())
  )
def letheref06_less (a1 : Nat → Int) (b2 : Nat → Int) (r : Bool) : Prop :=
  ∃ x48 : Option Unit, Iter (letheref06_less_l0 a1 b2 r) 15 x48 ∧ (x48 = some () →
  r = false
  )

def letheref06_minus_l0 (b2 : Nat → Int) (s : (Nat × Nat × (Nat → Int))) (o63 : (Nat × Nat × (Nat → Int)) ⊕ (Nat → Int)) : Prop :=
  match s with
  | (borrow59, i_60, m61) =>
    if i_60 < 16 then (
      (-9223372036854775808 ≤ ((m61 i_60) - (b2 i_60)) ∧ ((m61 i_60) - (b2 i_60)) ≤ 9223372036854775807) ∧
      (-9223372036854775808 ≤ (((m61 i_60) - (b2 i_60)) - ((borrow59 : Nat) : Int)) ∧ (((m61 i_60) - (b2 i_60)) - ((borrow59 : Nat) : Int)) ≤ 9223372036854775807) ∧
      ∃ borrow79 : Nat, ∃ v80 : Int, (
        if (((m61 i_60) - (b2 i_60)) - ((borrow59 : Nat) : Int)) < 0 then (
          (-9223372036854775808 ≤ ((((m61 i_60) - (b2 i_60)) - ((borrow59 : Nat) : Int)) + 65536) ∧ ((((m61 i_60) - (b2 i_60)) - ((borrow59 : Nat) : Int)) + 65536) ≤ 9223372036854775807) ∧
          borrow79 = 1 ∧ v80 = ((((m61 i_60) - (b2 i_60)) - ((borrow59 : Nat) : Int)) + 65536)
        ) else (
          borrow79 = 0 ∧ v80 = (((m61 i_60) - (b2 i_60)) - ((borrow59 : Nat) : Int))
        )
      ) ∧
      o63 = .inl (borrow79, (i_60 + 1), (upd m61 i_60 v80))
    ) else (
      o63 = .inr m61
    )
def letheref06_minus (a1 : Nat → Int) (b2 : Nat → Int) (r : (Nat → Int)) : Prop :=
  ∃ m62 : Nat → Int, Iter (letheref06_minus_l0 b2) (0, 0, a1) m62 ∧
  r = m62

def letheref06_reduced_l0  (d_96 : (List Int)) (o98 : (List Int) ⊕ (List Int)) : Prop :=
  ∃ ok108 : Bool, (
    if 16 < d_96.length then (
      ok108 = true
    ) else (
      ∃ x_112 : Bool, letheref06_carries d_96 x_112 ∧
      if x_112 = true then (
        ok108 = true
      ) else (
        (ok108 = false) ∧
        o98 = .inr d_96
      )
    )
  ) ∧
  (ok108 = true →
  ∃ x_118 : List Int, letheref06_carried d_96 x_118 ∧
  if 16 < x_118.length then (
    ∃ x_128 : List Int, letheref06_folded x_118 x_128 ∧
    o98 = .inl x_128
  ) else (
    (15 < x_118.length) ∧
    if 32768 ≤ (x_118.getD 15 (0 : Int)) then (
      ∃ x_140 : List Int, letheref06_folded x_118 x_140 ∧
      o98 = .inl x_140
    ) else (
      o98 = .inl x_118
    )
  )
  )
def letheref06_reduced_l1 (d_97 : List Int) (s : (Nat × (Nat → Int))) (o175 : (Nat × (Nat → Int)) ⊕ (Nat → Int)) : Prop :=
  match s with
  | (i_172, m173) =>
    if i_172 < d_97.length then (
      (i_172 < d_97.length) ∧
      (i_172 < 16) ∧
      ((i_172 + 1) < 9223372036854775808) ∧
      o175 = .inl ((i_172 + 1), (upd m173 i_172 (d_97.getD i_172 (0 : Int))))
    ) else (
      o175 = .inr m173
    )
def letheref06_reduced_l2 (x_190 : Nat → Int) (r : (Nat → Int)) (m221 : (Nat → Int)) (o222 : (Nat → Int) ⊕ (Option Unit)) : Prop :=
  ∃ x_226 : Bool, letheref06_less m221 x_190 x_226 ∧
  if x_226 = true then (
    o222 = .inr none ∧ r = m221
  ) else (
    ∃ x_235 : Nat → Int, letheref06_minus m221 x_190 x_235 ∧
    o222 = .inl x_235
  )
def letheref06_reduced (d_1 : List Int) (r : (Nat → Int)) : Prop :=
  ∃ d_97 : List Int, Iter (letheref06_reduced_l0) d_1 d_97 ∧
  ∃ m174 : Nat → Int, Iter (letheref06_reduced_l1 d_97) (0, (fun _ => (0 : Int))) m174 ∧
  ∃ x_190 : Nat → Int, letheref06_prime x_190 ∧
  ∃ x222 : Option Unit, Iter (letheref06_reduced_l2 x_190 r) m174 x222 ∧ (x222 = some () →
  False)

def letheref06_From_l0 (b1 : Nat → BitVec 8) (s : ((List Int) × Nat)) (o34 : ((List Int) × Nat) ⊕ (List Int)) : Prop :=
  match s with
  | (d_30, i_32) =>
    if i_32 < 16 then (
      ((d_30.length + ([(((((b1 (2 * i_32)).toNat) + (256 * ((b1 ((2 * i_32) + 1)).toNat))) : Nat) : Int)] : List Int).length) * 8 ≤ 140737488355328 ∧ d_30.length + ([(((((b1 (2 * i_32)).toNat) + (256 * ((b1 ((2 * i_32) + 1)).toNat))) : Nat) : Int)] : List Int).length < 9223372036854775808) ∧
      o34 = .inl ((d_30 ++ ([(((((b1 (2 * i_32)).toNat) + (256 * ((b1 ((2 * i_32) + 1)).toNat))) : Nat) : Int)] : List Int)), (i_32 + 1))
    ) else (
      o34 = .inr d_30
    )
def letheref06_From (b1 : Nat → BitVec 8) (r : (Nat → Int)) : Prop :=
  ∃ d_33 : List Int, Iter (letheref06_From_l0 b1) (([] : List Int), 0) d_33 ∧
  (15 < d_33.length) ∧
  (15 < d_33.length) ∧
  ∃ x_57 : Nat → Int, letheref06_reduced (d_33.set 15 ((d_33.getD 15 (0 : Int)).tmod 32768)) x_57 ∧
  r = x_57

def letheref06_Fits_l0 (b1 : Nat → BitVec 8) (s : (Nat × (Nat → Int))) (o25 : (Nat × (Nat → Int)) ⊕ (Nat → Int)) : Prop :=
  match s with
  | (i_22, m23) =>
    if i_22 < 16 then (
      o25 = .inl ((i_22 + 1), (upd m23 i_22 (((((b1 (2 * i_22)).toNat) + (256 * ((b1 ((2 * i_22) + 1)).toNat))) : Nat) : Int)))
    ) else (
      o25 = .inr m23
    )
def letheref06_Fits (b1 : Nat → BitVec 8) (r : Bool) : Prop :=
  ∃ m24 : Nat → Int, Iter (letheref06_Fits_l0 b1) (0, (fun _ => (0 : Int))) m24 ∧
  ∃ x_38 : Nat → Int, letheref06_prime x_38 ∧
  ∃ x_41 : Bool, letheref06_less m24 x_38 x_41 ∧
  r = x_41

def letheref06_Int_l0  (s : ((BitVec 64) × Nat × (Nat → Int))) (o29 : ((BitVec 64) × Nat × (Nat → Int)) ⊕ (Nat → Int)) : Prop :=
  match s with
  | (n_25, i_26, m27) =>
    if i_26 < 4 then (
      ((n_25 % (65536#64)).toNat < 9223372036854775808) ∧
      o29 = .inl ((n_25 / (65536#64)), (i_26 + 1), (upd m27 i_26 (((n_25 % (65536#64)).toNat : Nat) : Int)))
    ) else (
      o29 = .inr m27
    )
def letheref06_Int (n_1 : BitVec 64) (r : (Nat → Int)) : Prop :=
  ∃ m28 : Nat → Int, Iter (letheref06_Int_l0) (n_1, 0, (fun _ => (0 : Int))) m28 ∧
  r = m28

def letheref06_Add_l0 (a1 : Nat → Int) (b2 : Nat → Int) (s : ((List Int) × Nat)) (o38 : ((List Int) × Nat) ⊕ (List Int)) : Prop :=
  match s with
  | (d_34, i_36) =>
    if i_36 < 16 then (
      (-9223372036854775808 ≤ ((a1 i_36) + (b2 i_36)) ∧ ((a1 i_36) + (b2 i_36)) ≤ 9223372036854775807) ∧
      ((d_34.length + ([((a1 i_36) + (b2 i_36))] : List Int).length) * 8 ≤ 140737488355328 ∧ d_34.length + ([((a1 i_36) + (b2 i_36))] : List Int).length < 9223372036854775808) ∧
      o38 = .inl ((d_34 ++ ([((a1 i_36) + (b2 i_36))] : List Int)), (i_36 + 1))
    ) else (
      o38 = .inr d_34
    )
def letheref06_Add (a1 : Nat → Int) (b2 : Nat → Int) (r : (Nat → Int)) : Prop :=
  ∃ d_37 : List Int, Iter (letheref06_Add_l0 a1 b2) (([] : List Int), 0) d_37 ∧
  ∃ x_56 : Nat → Int, letheref06_reduced d_37 x_56 ∧
  r = x_56

def letheref06_Neg (a1 : Nat → Int) (r : (Nat → Int)) : Prop :=
  ∃ x_9 : Nat → Int, letheref06_prime x_9 ∧
  ∃ x_13 : Nat → Int, letheref06_minus x_9 a1 x_13 ∧
  ∃ x_19 : Nat → Int, letheref06_reduced (dli 16 x_13) x_19 ∧
  r = x_19

def letheref06_Sub (a1 : Nat → Int) (b2 : Nat → Int) (r : (Nat → Int)) : Prop :=
  ∃ x_10 : Nat → Int, letheref06_Neg b2 x_10 ∧
  ∃ x_13 : Nat → Int, letheref06_Add a1 x_10 x_13 ∧
  r = x_13

def letheref06_Mul_l1 (a1 : Nat → Int) (b2 : Nat → Int) (i_107 : Nat) (s : ((List Int) × Nat)) (o143 : ((List Int) × Nat) ⊕ (List Int)) : Prop :=
  match s with
  | (d_140, k141) =>
    if k141 < 16 then (
      ((i_107 + k141) < d_140.length) ∧
      (-9223372036854775808 ≤ ((a1 i_107) * (b2 k141)) ∧ ((a1 i_107) * (b2 k141)) ≤ 9223372036854775807) ∧
      (-9223372036854775808 ≤ ((d_140.getD (i_107 + k141) (0 : Int)) + ((a1 i_107) * (b2 k141))) ∧ ((d_140.getD (i_107 + k141) (0 : Int)) + ((a1 i_107) * (b2 k141))) ≤ 9223372036854775807) ∧
      ((i_107 + k141) < d_140.length) ∧
      o143 = .inl ((d_140.set (i_107 + k141) ((d_140.getD (i_107 + k141) (0 : Int)) + ((a1 i_107) * (b2 k141)))), (k141 + 1))
    ) else (
      o143 = .inr d_140
    )
def letheref06_Mul_l0 (a1 : Nat → Int) (b2 : Nat → Int) (s : ((List Int) × Nat)) (o109 : ((List Int) × Nat) ⊕ (List Int)) : Prop :=
  match s with
  | (d_106, i_107) =>
    if i_107 < 16 then (
      ∃ d_142 : List Int, Iter (letheref06_Mul_l1 a1 b2 i_107) (d_106, 0) d_142 ∧
      o109 = .inl (d_142, (i_107 + 1))
    ) else (
      o109 = .inr d_106
    )
def letheref06_Mul (a1 : Nat → Int) (b2 : Nat → Int) (r : (Nat → Int)) : Prop :=
  ∃ d_108 : List Int, Iter (letheref06_Mul_l0 a1 b2) ((List.replicate 32 (0 : Int)), 0) d_108 ∧
  ∃ x_161 : Nat → Int, letheref06_reduced d_108 x_161 ∧
  r = x_161

def letheref06_Pow_l0 (a1 : Nat → Int) (n_2 : Nat → BitVec 8) (s : (Int × (Nat → Int))) (o77 : (Int × (Nat → Int)) ⊕ (Nat → Int)) : Prop :=
  match s with
  | (i_74, m75) =>
    if 0 ≤ i_74 then (
      ∃ x_85 : Nat → Int, letheref06_Mul m75 m75 x_85 ∧
      (-9223372036854775808 ≤ (i_74.tdiv 8) ∧ (i_74.tdiv 8) ≤ 9223372036854775807) ∧
      (0 ≤ (i_74.tdiv 8) ∧ (i_74.tdiv 8) < 32) ∧
      (0 ≤ (i_74.tmod 8)) ∧
      if (((n_2 ((i_74.tdiv 8).toNat)) >>> ((i_74.tmod 8).toNat)) &&& (1#8)) = 1#8 then (
        ∃ x_95 : Nat → Int, letheref06_Mul x_85 a1 x_95 ∧
        (-9223372036854775808 ≤ (i_74 - 1) ∧ (i_74 - 1) ≤ 9223372036854775807) ∧
        o77 = .inl ((i_74 - 1), x_95)
      ) else (
        (-9223372036854775808 ≤ (i_74 - 1) ∧ (i_74 - 1) ≤ 9223372036854775807) ∧
        o77 = .inl ((i_74 - 1), x_85)
      )
    ) else (
      o77 = .inr m75
    )
def letheref06_Pow (a1 : Nat → Int) (n_2 : Nat → BitVec 8) (r : (Nat → Int)) : Prop :=
  ∃ x_9 : Nat → Int, letheref06_Int (1#64) x_9 ∧
  ∃ m76 : Nat → Int, Iter (letheref06_Pow_l0 a1 n_2) (255, x_9) m76 ∧
  r = m76

def letheref06_Bytes_l0 (n_1 : Nat → Int) (s : (Nat × (Nat → BitVec 8))) (o32 : (Nat × (Nat → BitVec 8)) ⊕ (Nat → BitVec 8)) : Prop :=
  match s with
  | (i_29, m30) =>
    if i_29 < 16 then (
      (-9223372036854775808 ≤ ((n_1 i_29).tdiv 256) ∧ ((n_1 i_29).tdiv 256) ≤ 9223372036854775807) ∧
      o32 = .inl ((i_29 + 1), (upd (upd m30 (2 * i_29) (BitVec.ofInt 8 ((n_1 i_29).tmod 256))) ((2 * i_29) + 1) (BitVec.ofInt 8 ((n_1 i_29).tdiv 256))))
    ) else (
      o32 = .inr m30
    )
def letheref06_Bytes (n_1 : Nat → Int) (r : (Nat → BitVec 8)) : Prop :=
  ∃ m31 : Nat → BitVec 8, Iter (letheref06_Bytes_l0 n_1) (0, (fun _ => 0#8)) m31 ∧
  r = m31

def letheref06_less2  (r : (Nat → BitVec 8)) : Prop :=
  ∃ x_5 : Nat → Int, letheref06_prime x_5 ∧
  ∃ x_8 : Nat → Int, letheref06_Int (2#64) x_8 ∧
  ∃ x_11 : Nat → Int, letheref06_minus x_5 x_8 x_11 ∧
  ∃ x_14 : Nat → BitVec 8, letheref06_Bytes x_11 x_14 ∧
  r = x_14

def letheref06_Inv (a1 : Nat → Int) (r : (Nat → Int)) : Prop :=
  ∃ x_8 : Nat → BitVec 8, letheref06_less2 x_8 ∧
  ∃ x_11 : Nat → Int, letheref06_Pow a1 x_8 x_11 ∧
  r = x_11

def letheref06_Sqrt_l0  (s : (Nat × (Nat → BitVec 8))) (o24 : (Nat × (Nat → BitVec 8)) ⊕ (Nat → BitVec 8)) : Prop :=
  match s with
  | (i_21, m22) =>
    if i_21 < 32 then (
      o24 = .inl ((i_21 + 1), (upd m22 i_21 (255#8)))
    ) else (
      o24 = .inr m22
    )
def letheref06_Sqrt_l1  (s : (Nat × (Nat → BitVec 8))) (o120 : (Nat × (Nat → BitVec 8)) ⊕ (Nat → BitVec 8)) : Prop :=
  match s with
  | (i_117, m118) =>
    if i_117 < 32 then (
      o120 = .inl ((i_117 + 1), (upd m118 i_117 (255#8)))
    ) else (
      o120 = .inr m118
    )
def letheref06_Sqrt (a1 : Nat → Int) (r : ((Nat → Int) × Bool)) : Prop :=
  ∃ m23 : Nat → BitVec 8, Iter (letheref06_Sqrt_l0) (0, (fun _ => 0#8)) m23 ∧
  ∃ x_38 : Nat → Int, letheref06_Pow a1 (upd (upd m23 0 (254#8)) 31 (15#8)) x_38 ∧
  ∃ m92 : Nat → Int, (
    ∃ x_97 : Nat → Int, letheref06_Mul x_38 x_38 x_97 ∧
    if (eqI 16 x_97 a1) = true then (
      m92 = x_38
    ) else (
      ∃ m119 : Nat → BitVec 8, Iter (letheref06_Sqrt_l1) (0, (fun _ => 0#8)) m119 ∧
      ∃ x_135 : Nat → Int, letheref06_Int (2#64) x_135 ∧
      ∃ x_138 : Nat → Int, letheref06_Pow x_135 (upd (upd m119 0 (251#8)) 31 (31#8)) x_138 ∧
      ∃ x_141 : Nat → Int, letheref06_Mul x_38 x_138 x_141 ∧
      m92 = x_141
    )
  ) ∧
  ∃ x_150 : Nat → Int, letheref06_Mul m92 m92 x_150 ∧
  if (eqI 16 x_150 a1) = true then (
    ∃ m161 : Nat → Int, (
      if ((m92 0).tmod 2) = 1 then (
        ∃ x_167 : Nat → Int, letheref06_Neg m92 x_167 ∧
        m161 = x_167
      ) else (
        m161 = m92
      )
    ) ∧
    r = (m161, true)
  ) else (
    r = ((fun _ => (0 : Int)), false)
  )
end Go.Proofs.YtjblfkmmbpcpaaaDoor
