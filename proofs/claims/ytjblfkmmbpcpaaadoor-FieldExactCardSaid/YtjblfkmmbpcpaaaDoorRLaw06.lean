/-
  RELATIONS of the package's functions, printed by this session's own program (auto.py).
-/
import Derived.Test.YtjblfkmmbpcpaaaDoorEb
import Derived.Test.YtjblfkmmbpcpaaaDoorFldT
import Derived.Test.YtjblfkmmbpcpaaaDoorRField
import Derived.Test.YtjblfkmmbpcpaaaDoorRRef06
namespace Go.Proofs.YtjblfkmmbpcpaaaDoor
set_option linter.unusedSimpArgs false
set_option linter.unusedVariables false
set_option linter.unusedSectionVars false
open Go Go.LW

def lethelaw06_rest (n_1 : Int) (m2 : Int) (r : Int) : Prop :=
  (m2 ≠ 0) ∧
  (-9223372036854775808 ≤ ((n_1.tmod m2) + m2) ∧ ((n_1.tmod m2) + m2) ≤ 9223372036854775807) ∧
  (m2 ≠ 0) ∧
  r = (((n_1.tmod m2) + m2).tmod m2)

def lethelaw06_table_powers (tp2 : Nat → BitVec 64) (tr3 : Nat → Int) (tslow4 : Int) (oKind5 : Int) (oA6 : Int) (oB7 : Int) (oC8 : Int) (oK9 : Nat → BitVec 8) (oN10 : BitVec 32) (oBit11 : Int) (r : (Bool × (Nat → BitVec 64) × (Nat → Int) × Int)) : Prop :=
  ∃ x_17 : Int, lethelaw06_rest oA6 4 x_17 ∧
  ∃ x_20 : Int, lethelaw06_rest oC8 4 x_20 ∧
  (-9223372036854775808 ≤ (tslow4 + 1) ∧ (tslow4 + 1) ≤ 9223372036854775807) ∧
  if 4 < (tslow4 + 1) then (
    r = (true, tp2, tr3, (tslow4 + 1))
  ) else (
    if oKind5 = 7 then (
      (0 ≤ x_17 ∧ x_17 < 4) ∧
      (0 ≤ x_17 ∧ x_17 < 4) ∧
      ∃ x_38 : Nat → BitVec 64, field_Elem_Pow (fun q => tp2 ((x_17.toNat * 5) + q)) oK9 x_38 ∧
      ∃ x_41 : Nat → Int, letheref06_Pow (fun q => tr3 ((x_17.toNat * 16) + q)) oK9 x_41 ∧
      (0 ≤ x_20 ∧ x_20 < 4) ∧
      (0 ≤ x_20 ∧ x_20 < 4) ∧
      r = (true, (spl tp2 (x_20.toNat * 5) 5 x_38), (spl tr3 (x_20.toNat * 16) 16 x_41), (tslow4 + 1))
    ) else (
      if oKind5 = 8 then (
        (0 ≤ x_17 ∧ x_17 < 4) ∧
        (0 ≤ x_17 ∧ x_17 < 4) ∧
        ∃ x_55 : Nat → BitVec 64, field_Elem_Inv (fun q => tp2 ((x_17.toNat * 5) + q)) x_55 ∧
        ∃ x_58 : Nat → Int, letheref06_Inv (fun q => tr3 ((x_17.toNat * 16) + q)) x_58 ∧
        (0 ≤ x_20 ∧ x_20 < 4) ∧
        (0 ≤ x_20 ∧ x_20 < 4) ∧
        r = (true, (spl tp2 (x_20.toNat * 5) 5 x_55), (spl tr3 (x_20.toNat * 16) 16 x_58), (tslow4 + 1))
      ) else (
        if oKind5 = 9 then (
          (0 ≤ x_17 ∧ x_17 < 4) ∧
          ∃ x_71 : Nat → BitVec 64, ∃ x_72 : Bool, field_Elem_Root (fun q => tp2 ((x_17.toNat * 5) + q)) (x_71, x_72) ∧
          (0 ≤ x_17 ∧ x_17 < 4) ∧
          ∃ x_79 : Nat → Int, ∃ x_80 : Bool, letheref06_Sqrt (fun q => tr3 ((x_17.toNat * 16) + q)) (x_79, x_80) ∧
          (0 ≤ x_20 ∧ x_20 < 4) ∧
          (0 ≤ x_20 ∧ x_20 < 4) ∧
          r = ((x_72 == x_80), (spl tp2 (x_20.toNat * 5) 5 x_71), (spl tr3 (x_20.toNat * 16) 16 x_79), (tslow4 + 1))
        ) else (
          r = (true, tp2, tr3, (tslow4 + 1))
        )
      )
    )
  )

def lethelaw06_table_plays (tp2 : Nat → BitVec 64) (tr3 : Nat → Int) (tslow4 : Int) (oKind5 : Int) (oA6 : Int) (oB7 : Int) (oC8 : Int) (oK9 : Nat → BitVec 8) (oN10 : BitVec 32) (oBit11 : Int) (r : (Bool × (Nat → BitVec 64) × (Nat → Int) × Int)) : Prop :=
  ∃ x_17 : Int, lethelaw06_rest oA6 4 x_17 ∧
  ∃ x_20 : Int, lethelaw06_rest oB7 4 x_20 ∧
  ∃ x_23 : Int, lethelaw06_rest oC8 4 x_23 ∧
  if oKind5 = 1 then (
    ∃ x_32 : Nat → BitVec 64, field_Read oK9 x_32 ∧
    ∃ x_35 : Nat → Int, letheref06_From oK9 x_35 ∧
    (0 ≤ x_23 ∧ x_23 < 4) ∧
    (0 ≤ x_23 ∧ x_23 < 4) ∧
    ∃ x_44 : Bool, field_Fits oK9 x_44 ∧
    ∃ x_47 : Bool, letheref06_Fits oK9 x_47 ∧
    r = ((x_44 == x_47), (spl tp2 (x_23.toNat * 5) 5 x_32), (spl tr3 (x_23.toNat * 16) 16 x_35), tslow4)
  ) else (
    if oKind5 = 2 then (
      ∃ x_54 : Nat → BitVec 64, field_Small oN10 x_54 ∧
      ∃ x_57 : Nat → Int, letheref06_Int (oN10.setWidth 64) x_57 ∧
      (0 ≤ x_23 ∧ x_23 < 4) ∧
      (0 ≤ x_23 ∧ x_23 < 4) ∧
      r = (true, (spl tp2 (x_23.toNat * 5) 5 x_54), (spl tr3 (x_23.toNat * 16) 16 x_57), tslow4)
    ) else (
      if oKind5 = 3 then (
        (0 ≤ x_17 ∧ x_17 < 4) ∧
        (0 ≤ x_20 ∧ x_20 < 4) ∧
        (0 ≤ x_17 ∧ x_17 < 4) ∧
        (0 ≤ x_20 ∧ x_20 < 4) ∧
        ∃ x_73 : Nat → BitVec 64, field_Elem_Add (fun q => tp2 ((x_17.toNat * 5) + q)) (fun q => tp2 ((x_20.toNat * 5) + q)) x_73 ∧
        ∃ x_76 : Nat → Int, letheref06_Add (fun q => tr3 ((x_17.toNat * 16) + q)) (fun q => tr3 ((x_20.toNat * 16) + q)) x_76 ∧
        (0 ≤ x_23 ∧ x_23 < 4) ∧
        (0 ≤ x_23 ∧ x_23 < 4) ∧
        r = (true, (spl tp2 (x_23.toNat * 5) 5 x_73), (spl tr3 (x_23.toNat * 16) 16 x_76), tslow4)
      ) else (
        if oKind5 = 4 then (
          (0 ≤ x_17 ∧ x_17 < 4) ∧
          (0 ≤ x_20 ∧ x_20 < 4) ∧
          (0 ≤ x_17 ∧ x_17 < 4) ∧
          (0 ≤ x_20 ∧ x_20 < 4) ∧
          ∃ x_92 : Nat → BitVec 64, field_Elem_Sub (fun q => tp2 ((x_17.toNat * 5) + q)) (fun q => tp2 ((x_20.toNat * 5) + q)) x_92 ∧
          ∃ x_95 : Nat → Int, letheref06_Sub (fun q => tr3 ((x_17.toNat * 16) + q)) (fun q => tr3 ((x_20.toNat * 16) + q)) x_95 ∧
          (0 ≤ x_23 ∧ x_23 < 4) ∧
          (0 ≤ x_23 ∧ x_23 < 4) ∧
          r = (true, (spl tp2 (x_23.toNat * 5) 5 x_92), (spl tr3 (x_23.toNat * 16) 16 x_95), tslow4)
        ) else (
          if oKind5 = 5 then (
            (0 ≤ x_17 ∧ x_17 < 4) ∧
            (0 ≤ x_20 ∧ x_20 < 4) ∧
            (0 ≤ x_17 ∧ x_17 < 4) ∧
            (0 ≤ x_20 ∧ x_20 < 4) ∧
            ∃ x_111 : Nat → BitVec 64, field_Elem_Mul (fun q => tp2 ((x_17.toNat * 5) + q)) (fun q => tp2 ((x_20.toNat * 5) + q)) x_111 ∧
            ∃ x_114 : Nat → Int, letheref06_Mul (fun q => tr3 ((x_17.toNat * 16) + q)) (fun q => tr3 ((x_20.toNat * 16) + q)) x_114 ∧
            (0 ≤ x_23 ∧ x_23 < 4) ∧
            (0 ≤ x_23 ∧ x_23 < 4) ∧
            r = (true, (spl tp2 (x_23.toNat * 5) 5 x_111), (spl tr3 (x_23.toNat * 16) 16 x_114), tslow4)
          ) else (
            if oKind5 = 6 then (
              (0 ≤ x_17 ∧ x_17 < 4) ∧
              (0 ≤ x_17 ∧ x_17 < 4) ∧
              (0 ≤ x_17 ∧ x_17 < 4) ∧
              ∃ x_129 : Nat → BitVec 64, field_Elem_Square (fun q => tp2 ((x_17.toNat * 5) + q)) x_129 ∧
              ∃ x_132 : Nat → Int, letheref06_Mul (fun q => tr3 ((x_17.toNat * 16) + q)) (fun q => tr3 ((x_17.toNat * 16) + q)) x_132 ∧
              (0 ≤ x_23 ∧ x_23 < 4) ∧
              (0 ≤ x_23 ∧ x_23 < 4) ∧
              r = (true, (spl tp2 (x_23.toNat * 5) 5 x_129), (spl tr3 (x_23.toNat * 16) 16 x_132), tslow4)
            ) else (
              ∃ t145 : Bool, (
                if oKind5 = 7 then (
                  t145 = (decide (oKind5 = 7))
                ) else (
                  if oKind5 = 8 then (
                    t145 = (decide (oKind5 = 8))
                  ) else (
                    t145 = (decide (oKind5 = 9))
                  )
                )
              ) ∧
              if t145 = true then (
                ∃ x_156 : Bool, ∃ x_157 : Nat → BitVec 64, ∃ x_158 : Nat → Int, ∃ x_159 : Int, lethelaw06_table_powers tp2 tr3 tslow4 oKind5 oA6 oB7 oC8 oK9 oN10 oBit11 (x_156, x_157, x_158, x_159) ∧
                r = (x_156, x_157, x_158, x_159)
              ) else (
                if oKind5 = 10 then (
                  (0 ≤ x_17 ∧ x_17 < 4) ∧
                  (0 ≤ x_20 ∧ x_20 < 4) ∧
                  ∃ x_169 : Nat → BitVec 64, ∃ x_170 : Nat → BitVec 64, field_Swap oBit11 (fun q => tp2 ((x_17.toNat * 5) + q)) (fun q => tp2 ((x_20.toNat * 5) + q)) (x_169, x_170) ∧
                  (0 ≤ x_17 ∧ x_17 < 4) ∧
                  (0 ≤ x_20 ∧ x_20 < 4) ∧
                  if (oBit11 % 2) = 1 then (
                    (0 ≤ x_20 ∧ x_20 < 4) ∧
                    (0 ≤ x_17 ∧ x_17 < 4) ∧
                    (0 ≤ x_17 ∧ x_17 < 4) ∧
                    (0 ≤ x_20 ∧ x_20 < 4) ∧
                    r = (true, (spl (spl tp2 (x_17.toNat * 5) 5 x_169) (x_20.toNat * 5) 5 x_170), (spl (spl tr3 (x_17.toNat * 16) 16 (fun q => tr3 ((x_20.toNat * 16) + q))) (x_20.toNat * 16) 16 (fun q => tr3 ((x_17.toNat * 16) + q))), tslow4)
                  ) else (
                    r = (true, (spl (spl tp2 (x_17.toNat * 5) 5 x_169) (x_20.toNat * 5) 5 x_170), tr3, tslow4)
                  )
                ) else (
                  if oKind5 = 11 then (
                    (0 ≤ x_17 ∧ x_17 < 4) ∧
                    (0 ≤ x_20 ∧ x_20 < 4) ∧
                    (0 ≤ x_17 ∧ x_17 < 4) ∧
                    (0 ≤ x_20 ∧ x_20 < 4) ∧
                    ∃ x_198 : Bool, field_Elem_Equal (fun q => tp2 ((x_17.toNat * 5) + q)) (fun q => tp2 ((x_20.toNat * 5) + q)) x_198 ∧
                    r = ((x_198 == (eqI 16 (fun q => tr3 ((x_17.toNat * 16) + q)) (fun q => tr3 ((x_20.toNat * 16) + q)))), tp2, tr3, tslow4)
                  ) else (
                    r = (true, tp2, tr3, tslow4)
                  )
                )
              )
            )
          )
        )
      )
    )
  )

def lethelaw06_table_same_l0 (tp2 : Nat → BitVec 64) (tr3 : Nat → Int) (r : Bool) (i_37 : Nat) (o38 : Nat ⊕ (Option Unit)) : Prop :=
  if i_37 < 4 then (
    ∃ x_47 : Nat → BitVec 8, field_Elem_Bytes (fun q => tp2 ((i_37 * 5) + q)) x_47 ∧
    ∃ x_50 : Nat → BitVec 8, letheref06_Bytes (fun q => tr3 ((i_37 * 16) + q)) x_50 ∧
    if (eqB 32 x_47 x_50) = true then (
      o38 = .inl (i_37 + 1)
    ) else (
      o38 = .inr none ∧ r = false
    )
  ) else (
    o38 = .inr (some ())
  )
def lethelaw06_table_same (tp2 : Nat → BitVec 64) (tr3 : Nat → Int) (tslow4 : Int) (r : Bool) : Prop :=
  ∃ x38 : Option Unit, Iter (lethelaw06_table_same_l0 tp2 tr3 r) 0 x38 ∧ (x38 = some () →
  r = true
  )
end Go.Proofs.YtjblfkmmbpcpaaaDoor
