/-
  RELATIONS of the package's functions, printed by this session's own program (auto.py).
-/
import Derived.Test.YtbkgblhmlenocaaEd
import Derived.Test.YtbkgblhmlenocaaRLaw15
import Derived.Test.YtbkgblhmlenocaaRRef15
import Derived.Test.YtbkgblhmlenocaaRSkips
namespace Go.Proofs.Ytbkgblhmlenocaa
set_option linter.unusedSimpArgs false
set_option linter.unusedVariables false
set_option linter.unusedSectionVars false
open Go Go.LW

def lethelaw15_SkipsExact_l0 (list2 : List ((BitVec 32) × (BitVec 32) × (Nat → BitVec 8))) (s : ((List ((BitVec 32) × (BitVec 32) × (Nat → BitVec 8))) × Nat)) (o786 : ((List ((BitVec 32) × (BitVec 32) × (Nat → BitVec 8))) × Nat) ⊕ Unit) : Prop :=
  match s with
  | (l_784, i_785) =>
    if i_785 < list2.length then (
      (i_785 < list2.length) ∧
      ((i_785 + 1) < 9223372036854775808) ∧
      o786 = .inl ((l_784.set i_785 (77#32, 0#32, (fun _ => 0#8))), (i_785 + 1))
    ) else (
      o786 = .inr ()
    )
def lethelaw15_SkipsExact_l2 (script3 : List (Int × (BitVec 32) × (BitVec 32) × (List (Nat → BitVec 8)))) (i_1770 : Nat) (s : ((List (Nat → BitVec 8)) × Nat)) (o2126 : ((List (Nat → BitVec 8)) × Nat) ⊕ Unit) : Prop :=
  match s with
  | (k2124, i_2125) =>
    if i_2125 < ((script3.getD i_1770 ((0 : Int), 0#32, 0#32, ([] : List (Nat → BitVec 8)))).2.2.2).length then (
      (i_2125 < ((script3.getD i_1770 ((0 : Int), 0#32, 0#32, ([] : List (Nat → BitVec 8)))).2.2.2).length) ∧
      ((i_2125 + 1) < 9223372036854775808) ∧
      o2126 = .inl ((k2124.set i_2125 (upd (fun _ => 0#8) 0 (238#8))), (i_2125 + 1))
    ) else (
      o2126 = .inr ()
    )
def lethelaw15_SkipsExact_l1 (script3 : List (Int × (BitVec 32) × (BitVec 32) × (List (Nat → BitVec 8)))) (m474 : Int) (r : Bool) (s : (Nat × Int × (List ((BitVec 32 × BitVec 32) × (Nat → BitVec 8))) × (List ((BitVec 32) × (BitVec 32) × (Nat → BitVec 8))))) (o1781 : (Nat × Int × (List ((BitVec 32 × BitVec 32) × (Nat → BitVec 8))) × (List ((BitVec 32) × (BitVec 32) × (Nat → BitVec 8)))) ⊕ (Option (Int × (List ((BitVec 32 × BitVec 32) × (Nat → BitVec 8))) × (List ((BitVec 32) × (BitVec 32) × (Nat → BitVec 8)))))) : Prop :=
  match s with
  | (i_1770, m1772, mp1774, m1775) =>
    if i_1770 < script3.length then (
      if i_1770 < 200 then (
        (i_1770 < script3.length) ∧
        ∃ most2023 : Bool, ∃ m2025 : Int, ∃ mp2027 : List ((BitVec 32 × BitVec 32) × (Nat → BitVec 8)), ∃ m2028 : List ((BitVec 32) × (BitVec 32) × (Nat → BitVec 8)), (
          if (script3.getD i_1770 ((0 : Int), 0#32, 0#32, ([] : List (Nat → BitVec 8)))).1 = 1 then (
            ((0 + ((script3.getD i_1770 ((0 : Int), 0#32, 0#32, ([] : List (Nat → BitVec 8)))).2.2.2).length) * 32 ≤ 140737488355328 ∧ 0 + ((script3.getD i_1770 ((0 : Int), 0#32, 0#32, ([] : List (Nat → BitVec 8)))).2.2.2).length < 9223372036854775808) ∧
            (((([] : List (Nat → BitVec 8)) ++ ((script3.getD i_1770 ((0 : Int), 0#32, 0#32, ([] : List (Nat → BitVec 8)))).2.2.2)).length + ([(upd (fun _ => 0#8) 0 (7#8)), (upd (fun _ => 0#8) 0 (8#8))] : List (Nat → BitVec 8)).length) * 32 ≤ 140737488355328 ∧ (([] : List (Nat → BitVec 8)) ++ ((script3.getD i_1770 ((0 : Int), 0#32, 0#32, ([] : List (Nat → BitVec 8)))).2.2.2)).length + ([(upd (fun _ => 0#8) 0 (7#8)), (upd (fun _ => 0#8) 0 (8#8))] : List (Nat → BitVec 8)).length < 9223372036854775808) ∧
            (0 ≤ ((script3.getD i_1770 ((0 : Int), 0#32, 0#32, ([] : List (Nat → BitVec 8)))).2.2.2).length ∧ ((script3.getD i_1770 ((0 : Int), 0#32, 0#32, ([] : List (Nat → BitVec 8)))).2.2.2).length ≤ ((([] : List (Nat → BitVec 8)) ++ ((script3.getD i_1770 ((0 : Int), 0#32, 0#32, ([] : List (Nat → BitVec 8)))).2.2.2)) ++ ([(upd (fun _ => 0#8) 0 (7#8)), (upd (fun _ => 0#8) 0 (8#8))] : List (Nat → BitVec 8))).length) ∧
            ∃ x_2050 : Nat, ∃ x_2051 : List ((BitVec 32 × BitVec 32) × (Nat → BitVec 8)), skips_Table_Add m1772 mp1774 ((script3.getD i_1770 ((0 : Int), 0#32, 0#32, ([] : List (Nat → BitVec 8)))).2.1) ((script3.getD i_1770 ((0 : Int), 0#32, 0#32, ([] : List (Nat → BitVec 8)))).2.2.1) (sgl ((([] : List (Nat → BitVec 8)) ++ ((script3.getD i_1770 ((0 : Int), 0#32, 0#32, ([] : List (Nat → BitVec 8)))).2.2.2)) ++ ([(upd (fun _ => 0#8) 0 (7#8)), (upd (fun _ => 0#8) 0 (8#8))] : List (Nat → BitVec 8))) 0 (((script3.getD i_1770 ((0 : Int), 0#32, 0#32, ([] : List (Nat → BitVec 8)))).2.2.2).length)) (x_2050, x_2051) ∧
            ∃ x_2086 : Nat, ∃ x_2087 : List ((BitVec 32) × (BitVec 32) × (Nat → BitVec 8)), letheref15_Table_Add m1775 m474 ((script3.getD i_1770 ((0 : Int), 0#32, 0#32, ([] : List (Nat → BitVec 8)))).2.1) ((script3.getD i_1770 ((0 : Int), 0#32, 0#32, ([] : List (Nat → BitVec 8)))).2.2.1) ((script3.getD i_1770 ((0 : Int), 0#32, 0#32, ([] : List (Nat → BitVec 8)))).2.2.2) (x_2086, x_2087) ∧
            if x_2050 ≠ x_2086 then (
              most2023 = false ∧ m2025 = m1772 ∧ mp2027 = x_2051 ∧ m2028 = x_2087
            ) else (
              ∃ x_2098 : Bool, lethelaw15_sameKeys (sgl ((([] : List (Nat → BitVec 8)) ++ ((script3.getD i_1770 ((0 : Int), 0#32, 0#32, ([] : List (Nat → BitVec 8)))).2.2.2)) ++ ([(upd (fun _ => 0#8) 0 (7#8)), (upd (fun _ => 0#8) 0 (8#8))] : List (Nat → BitVec 8))) 0 (((script3.getD i_1770 ((0 : Int), 0#32, 0#32, ([] : List (Nat → BitVec 8)))).2.2.2).length)) ((script3.getD i_1770 ((0 : Int), 0#32, 0#32, ([] : List (Nat → BitVec 8)))).2.2.2) x_2098 ∧
              if x_2098 = true then (
                (((script3.getD i_1770 ((0 : Int), 0#32, 0#32, ([] : List (Nat → BitVec 8)))).2.2.2).length < ((([] : List (Nat → BitVec 8)) ++ ((script3.getD i_1770 ((0 : Int), 0#32, 0#32, ([] : List (Nat → BitVec 8)))).2.2.2)) ++ ([(upd (fun _ => 0#8) 0 (7#8)), (upd (fun _ => 0#8) 0 (8#8))] : List (Nat → BitVec 8))).length) ∧
                if (eqB 32 (((([] : List (Nat → BitVec 8)) ++ ((script3.getD i_1770 ((0 : Int), 0#32, 0#32, ([] : List (Nat → BitVec 8)))).2.2.2)) ++ ([(upd (fun _ => 0#8) 0 (7#8)), (upd (fun _ => 0#8) 0 (8#8))] : List (Nat → BitVec 8))).getD (((script3.getD i_1770 ((0 : Int), 0#32, 0#32, ([] : List (Nat → BitVec 8)))).2.2.2).length) (fun _ => 0#8)) (upd (fun _ => 0#8) 0 (7#8))) = true then (
                  (((((script3.getD i_1770 ((0 : Int), 0#32, 0#32, ([] : List (Nat → BitVec 8)))).2.2.2).length) + 1) < 9223372036854775808) ∧
                  (((((script3.getD i_1770 ((0 : Int), 0#32, 0#32, ([] : List (Nat → BitVec 8)))).2.2.2).length) + 1) < ((([] : List (Nat → BitVec 8)) ++ ((script3.getD i_1770 ((0 : Int), 0#32, 0#32, ([] : List (Nat → BitVec 8)))).2.2.2)) ++ ([(upd (fun _ => 0#8) 0 (7#8)), (upd (fun _ => 0#8) 0 (8#8))] : List (Nat → BitVec 8))).length) ∧
                  if (eqB 32 (((([] : List (Nat → BitVec 8)) ++ ((script3.getD i_1770 ((0 : Int), 0#32, 0#32, ([] : List (Nat → BitVec 8)))).2.2.2)) ++ ([(upd (fun _ => 0#8) 0 (7#8)), (upd (fun _ => 0#8) 0 (8#8))] : List (Nat → BitVec 8))).getD ((((script3.getD i_1770 ((0 : Int), 0#32, 0#32, ([] : List (Nat → BitVec 8)))).2.2.2).length) + 1) (fun _ => 0#8)) (upd (fun _ => 0#8) 0 (8#8))) = true then (
                    Iter (lethelaw15_SkipsExact_l2 script3 i_1770) (((([] : List (Nat → BitVec 8)) ++ ((script3.getD i_1770 ((0 : Int), 0#32, 0#32, ([] : List (Nat → BitVec 8)))).2.2.2)) ++ ([(upd (fun _ => 0#8) 0 (7#8)), (upd (fun _ => 0#8) 0 (8#8))] : List (Nat → BitVec 8))), 0) () ∧
                    most2023 = true ∧ m2025 = m1772 ∧ mp2027 = x_2051 ∧ m2028 = x_2087
                  ) else (
                    most2023 = false ∧ m2025 = m1772 ∧ mp2027 = x_2051 ∧ m2028 = x_2087
                  )
                ) else (
                  most2023 = false ∧ m2025 = m1772 ∧ mp2027 = x_2051 ∧ m2028 = x_2087
                )
              ) else (
                most2023 = false ∧ m2025 = m1772 ∧ mp2027 = x_2051 ∧ m2028 = x_2087
              )
            )
          ) else (
            if (script3.getD i_1770 ((0 : Int), 0#32, 0#32, ([] : List (Nat → BitVec 8)))).1 = 2 then (
              ∃ x_2153 : Nat → BitVec 8, ∃ x_2154 : Nat, skips_Table_Find m1772 mp1774 ((script3.getD i_1770 ((0 : Int), 0#32, 0#32, ([] : List (Nat → BitVec 8)))).2.1) ((script3.getD i_1770 ((0 : Int), 0#32, 0#32, ([] : List (Nat → BitVec 8)))).2.2.1) (x_2153, x_2154) ∧
              ∃ x_2163 : Nat → BitVec 8, ∃ x_2164 : Nat, letheref15_Table_Find m1775 m474 ((script3.getD i_1770 ((0 : Int), 0#32, 0#32, ([] : List (Nat → BitVec 8)))).2.1) ((script3.getD i_1770 ((0 : Int), 0#32, 0#32, ([] : List (Nat → BitVec 8)))).2.2.1) (x_2163, x_2164) ∧
              if (eqB 32 x_2153 x_2163) = true then (
                most2023 = (decide (x_2154 = x_2164)) ∧ m2025 = m1772 ∧ mp2027 = mp1774 ∧ m2028 = m1775
              ) else (
                most2023 = false ∧ m2025 = m1772 ∧ mp2027 = mp1774 ∧ m2028 = m1775
              )
            ) else (
              if (script3.getD i_1770 ((0 : Int), 0#32, 0#32, ([] : List (Nat → BitVec 8)))).1 = 3 then (
                ∃ x_2179 : Nat → BitVec 8, ∃ x_2180 : Nat, ∃ x_2181 : List ((BitVec 32 × BitVec 32) × (Nat → BitVec 8)), skips_Table_Take m1772 mp1774 ((script3.getD i_1770 ((0 : Int), 0#32, 0#32, ([] : List (Nat → BitVec 8)))).2.1) ((script3.getD i_1770 ((0 : Int), 0#32, 0#32, ([] : List (Nat → BitVec 8)))).2.2.1) (x_2179, x_2180, x_2181) ∧
                ∃ x_2190 : Nat → BitVec 8, ∃ x_2191 : Nat, ∃ x_2192 : List ((BitVec 32) × (BitVec 32) × (Nat → BitVec 8)), letheref15_Table_Take m1775 m474 ((script3.getD i_1770 ((0 : Int), 0#32, 0#32, ([] : List (Nat → BitVec 8)))).2.1) ((script3.getD i_1770 ((0 : Int), 0#32, 0#32, ([] : List (Nat → BitVec 8)))).2.2.1) (x_2190, x_2191, x_2192) ∧
                if (eqB 32 x_2179 x_2190) = true then (
                  most2023 = (decide (x_2180 = x_2191)) ∧ m2025 = m1772 ∧ mp2027 = x_2181 ∧ m2028 = x_2192
                ) else (
                  most2023 = false ∧ m2025 = m1772 ∧ mp2027 = x_2181 ∧ m2028 = x_2192
                )
              ) else (
                if (script3.getD i_1770 ((0 : Int), 0#32, 0#32, ([] : List (Nat → BitVec 8)))).1 = 4 then (
                  ∃ x_2211 : Nat, skips_Table_Len m1772 mp1774 x_2211 ∧
                  if x_2211 = m1775.length then (
                    ∃ x_2215 : List ((BitVec 32) × (BitVec 32) × (Nat → BitVec 8)), skips_Table_List m1772 mp1774 x_2215 ∧
                    ∃ x_2223 : Bool, lethelaw15_sameList x_2215 m1775 x_2223 ∧
                    most2023 = x_2223 ∧ m2025 = m1772 ∧ mp2027 = mp1774 ∧ m2028 = m1775
                  ) else (
                    most2023 = false ∧ m2025 = m1772 ∧ mp2027 = mp1774 ∧ m2028 = m1775
                  )
                ) else (
                  if (script3.getD i_1770 ((0 : Int), 0#32, 0#32, ([] : List (Nat → BitVec 8)))).1 = 5 then (
                    ∃ x_2232 : Int, ∃ x_2233 : List ((BitVec 32 × BitVec 32) × (Nat → BitVec 8)), skips_Table_Copy m1772 mp1774 (x_2232, x_2233) ∧
                    ∃ x_2244 : Nat → BitVec 8, ∃ x_2245 : Nat, ∃ x_2246 : List ((BitVec 32 × BitVec 32) × (Nat → BitVec 8)), skips_Table_Take m1772 mp1774 ((script3.getD i_1770 ((0 : Int), 0#32, 0#32, ([] : List (Nat → BitVec 8)))).2.1) ((script3.getD i_1770 ((0 : Int), 0#32, 0#32, ([] : List (Nat → BitVec 8)))).2.2.1) (x_2244, x_2245, x_2246) ∧
                    ∃ x_2254 : Nat, ∃ x_2255 : List ((BitVec 32 × BitVec 32) × (Nat → BitVec 8)), skips_Table_Add m1772 x_2246 ((script3.getD i_1770 ((0 : Int), 0#32, 0#32, ([] : List (Nat → BitVec 8)))).2.1) ((script3.getD i_1770 ((0 : Int), 0#32, 0#32, ([] : List (Nat → BitVec 8)))).2.2.1) ([(upd (fun _ => 0#8) 0 (1#8))] : List (Nat → BitVec 8)) (x_2254, x_2255) ∧
                    most2023 = true ∧ m2025 = x_2232 ∧ mp2027 = x_2233 ∧ m2028 = m1775
                  ) else (
                    most2023 = true ∧ m2025 = m1772 ∧ mp2027 = mp1774 ∧ m2028 = m1775
                  )
                )
              )
            )
          )
        ) ∧
        if most2023 = true then (
          o1781 = .inl ((i_1770 + 1), m2025, mp2027, m2028)
        ) else (
          o1781 = .inr none ∧ r = false
        )
      ) else (
        o1781 = .inr (some (m1772, mp1774, m1775))
      )
    ) else (
      o1781 = .inr (some (m1772, mp1774, m1775))
    )
def lethelaw15_SkipsExact (most1 : Int) (list2 : List ((BitVec 32) × (BitVec 32) × (Nat → BitVec 8))) (script3 : List (Int × (BitVec 32) × (BitVec 32) × (List (Nat → BitVec 8)))) (r : Bool) : Prop :=
  ∃ ok58 : Bool, (
    ((∃ x_61 : Nat, skips_New most1 (.inl x_61) ∧
      ((∃ x_68 : Nat, letheref15_New most1 (.inl x_68) ∧
        if x_61 ≠ x_68 then (
          ok58 = false ∧ r = false
        ) else (
          ok58 = true
        )
      ) ∨ (∃ x_69 : List ((BitVec 32) × (BitVec 32) × (Nat → BitVec 8)), ∃ x_70 : Int, ∃ x_71 : Nat, letheref15_New most1 (.inr (x_69, x_70, x_71)) ∧
        if x_61 ≠ x_71 then (
          ok58 = false ∧ r = false
        ) else (
          ok58 = false ∧ r = false
        )
      ))
    ) ∨ (∃ x_62 : Int, ∃ x_63 : List ((BitVec 32 × BitVec 32) × (Nat → BitVec 8)), ∃ x_64 : Nat, skips_New most1 (.inr (x_62, x_63, x_64)) ∧
      ((∃ x_94 : Nat, letheref15_New most1 (.inl x_94) ∧
        if x_64 ≠ x_94 then (
          ok58 = false ∧ r = false
        ) else (
          ok58 = false ∧ r = false
        )
      ) ∨ (∃ x_95 : List ((BitVec 32) × (BitVec 32) × (Nat → BitVec 8)), ∃ x_96 : Int, ∃ x_97 : Nat, letheref15_New most1 (.inr (x_95, x_96, x_97)) ∧
        if x_64 ≠ x_97 then (
          ok58 = false ∧ r = false
        ) else (
          ok58 = true
        )
      ))
    ))
  ) ∧
  (ok58 = true →
  ∃ long154 : List ((BitVec 32) × (BitVec 32) × (Nat → BitVec 8)), (
    ((0 + list2.length) * 40 ≤ 140737488355328 ∧ 0 + list2.length < 9223372036854775808) ∧
    (((([] : List ((BitVec 32) × (BitVec 32) × (Nat → BitVec 8))) ++ list2).length + ([(66#32, 0#32, (fun _ => 0#8)), (66#32, 0#32, (fun _ => 0#8))] : List ((BitVec 32) × (BitVec 32) × (Nat → BitVec 8))).length) * 40 ≤ 140737488355328 ∧ (([] : List ((BitVec 32) × (BitVec 32) × (Nat → BitVec 8))) ++ list2).length + ([(66#32, 0#32, (fun _ => 0#8)), (66#32, 0#32, (fun _ => 0#8))] : List ((BitVec 32) × (BitVec 32) × (Nat → BitVec 8))).length < 9223372036854775808) ∧
    ((0 + list2.length) * 40 ≤ 140737488355328 ∧ 0 + list2.length < 9223372036854775808) ∧
    (((([] : List ((BitVec 32) × (BitVec 32) × (Nat → BitVec 8))) ++ list2).length + ([(66#32, 0#32, (fun _ => 0#8)), (66#32, 0#32, (fun _ => 0#8))] : List ((BitVec 32) × (BitVec 32) × (Nat → BitVec 8))).length) * 40 ≤ 140737488355328 ∧ (([] : List ((BitVec 32) × (BitVec 32) × (Nat → BitVec 8))) ++ list2).length + ([(66#32, 0#32, (fun _ => 0#8)), (66#32, 0#32, (fun _ => 0#8))] : List ((BitVec 32) × (BitVec 32) × (Nat → BitVec 8))).length < 9223372036854775808) ∧
    long154 = ((([] : List ((BitVec 32) × (BitVec 32) × (Nat → BitVec 8))) ++ list2) ++ ([(66#32, 0#32, (fun _ => 0#8)), (66#32, 0#32, (fun _ => 0#8))] : List ((BitVec 32) × (BitVec 32) × (Nat → BitVec 8))))
  ) ∧
  (0 ≤ list2.length ∧ list2.length ≤ long154.length) ∧
  ∃ ok475 : Bool, ∃ m469 : Int, ∃ mp471 : List ((BitVec 32 × BitVec 32) × (Nat → BitVec 8)), ∃ m473 : List ((BitVec 32) × (BitVec 32) × (Nat → BitVec 8)), ∃ m474 : Int, (
    ((∃ x_478 : Nat, skips_Load most1 (sgl long154 0 list2.length) (.inl x_478) ∧
      ((∃ x_485 : Nat, letheref15_Load most1 list2 (.inl x_485) ∧
        ∃ t538 : Bool, (
          if x_478 ≠ x_485 then (
            t538 = true
          ) else (
            ∃ x_544 : Bool, lethelaw15_sameList (sgl long154 0 list2.length) list2 x_544 ∧
            if x_544 = true then (
              (list2.length < long154.length) ∧
              if ((decide ((long154.getD list2.length (0#32, 0#32, (fun _ => 0#8))).1 = 66#32)) && ((decide ((long154.getD list2.length (0#32, 0#32, (fun _ => 0#8))).2.1 = 0#32)) && ((eqB 32 ((long154.getD list2.length (0#32, 0#32, (fun _ => 0#8))).2.2) (fun _ => 0#8)) && true))) = true then (
                ((list2.length + 1) < 9223372036854775808) ∧
                ((list2.length + 1) < long154.length) ∧
                t538 = (!((decide ((long154.getD (list2.length + 1) (0#32, 0#32, (fun _ => 0#8))).1 = 66#32)) && ((decide ((long154.getD (list2.length + 1) (0#32, 0#32, (fun _ => 0#8))).2.1 = 0#32)) && ((eqB 32 ((long154.getD (list2.length + 1) (0#32, 0#32, (fun _ => 0#8))).2.2) (fun _ => 0#8)) && true))))
              ) else (
                t538 = true
              )
            ) else (
              t538 = true
            )
          )
        ) ∧
        if t538 = true then (
          ok475 = false ∧ r = false
        ) else (
          ((∃ x_563 : Nat, skips_New 4 (.inl x_563) ∧
            ((∃ x_570 : Nat, letheref15_New 4 (.inl x_570) ∧
              ok475 = false ∧ r = false
            ) ∨ (∃ x_571 : List ((BitVec 32) × (BitVec 32) × (Nat → BitVec 8)), ∃ x_572 : Int, ∃ x_573 : Nat, letheref15_New 4 (.inr (x_571, x_572, x_573)) ∧
              ok475 = false ∧ r = false
            ))
          ) ∨ (∃ x_564 : Int, ∃ x_565 : List ((BitVec 32 × BitVec 32) × (Nat → BitVec 8)), ∃ x_566 : Nat, skips_New 4 (.inr (x_564, x_565, x_566)) ∧
            ((∃ x_593 : Nat, letheref15_New 4 (.inl x_593) ∧
              if x_566 ≠ 0 then (
                ok475 = false ∧ r = false
              ) else (
                if x_593 ≠ 0 then (
                  ok475 = false ∧ r = false
                ) else (
                  False
                )
              )
            ) ∨ (∃ x_594 : List ((BitVec 32) × (BitVec 32) × (Nat → BitVec 8)), ∃ x_595 : Int, ∃ x_596 : Nat, letheref15_New 4 (.inr (x_594, x_595, x_596)) ∧
              if x_566 ≠ 0 then (
                ok475 = false ∧ r = false
              ) else (
                if x_596 ≠ 0 then (
                  ok475 = false ∧ r = false
                ) else (
                  ok475 = true ∧ m469 = x_564 ∧ mp471 = x_565 ∧ m473 = x_594 ∧ m474 = x_595
                )
              )
            ))
          ))
        )
      ) ∨ (∃ x_486 : List ((BitVec 32) × (BitVec 32) × (Nat → BitVec 8)), ∃ x_487 : Int, ∃ x_488 : Nat, letheref15_Load most1 list2 (.inr (x_486, x_487, x_488)) ∧
        (
          if x_478 ≠ x_488 then (
            True
          ) else (
            True
          )
        ) ∧
        ok475 = false ∧ r = false
      ))
    ) ∨ (∃ x_479 : Int, ∃ x_480 : List ((BitVec 32 × BitVec 32) × (Nat → BitVec 8)), ∃ x_481 : Nat, skips_Load most1 (sgl long154 0 list2.length) (.inr (x_479, x_480, x_481)) ∧
      ((∃ x_658 : Nat, letheref15_Load most1 list2 (.inl x_658) ∧
        (
          if x_481 ≠ x_658 then (
            True
          ) else (
            True
          )
        ) ∧
        ok475 = false ∧ r = false
      ) ∨ (∃ x_659 : List ((BitVec 32) × (BitVec 32) × (Nat → BitVec 8)), ∃ x_660 : Int, ∃ x_661 : Nat, letheref15_Load most1 list2 (.inr (x_659, x_660, x_661)) ∧
        ∃ t741 : Bool, (
          if x_481 ≠ x_661 then (
            t741 = true
          ) else (
            ∃ x_747 : Bool, lethelaw15_sameList (sgl long154 0 list2.length) list2 x_747 ∧
            if x_747 = true then (
              (list2.length < long154.length) ∧
              if ((decide ((long154.getD list2.length (0#32, 0#32, (fun _ => 0#8))).1 = 66#32)) && ((decide ((long154.getD list2.length (0#32, 0#32, (fun _ => 0#8))).2.1 = 0#32)) && ((eqB 32 ((long154.getD list2.length (0#32, 0#32, (fun _ => 0#8))).2.2) (fun _ => 0#8)) && true))) = true then (
                ((list2.length + 1) < 9223372036854775808) ∧
                ((list2.length + 1) < long154.length) ∧
                t741 = (!((decide ((long154.getD (list2.length + 1) (0#32, 0#32, (fun _ => 0#8))).1 = 66#32)) && ((decide ((long154.getD (list2.length + 1) (0#32, 0#32, (fun _ => 0#8))).2.1 = 0#32)) && ((eqB 32 ((long154.getD (list2.length + 1) (0#32, 0#32, (fun _ => 0#8))).2.2) (fun _ => 0#8)) && true))))
              ) else (
                t741 = true
              )
            ) else (
              t741 = true
            )
          )
        ) ∧
        if t741 = true then (
          ok475 = false ∧ r = false
        ) else (
          ok475 = true ∧ m469 = x_479 ∧ mp471 = x_480 ∧ m473 = x_659 ∧ m474 = x_660
        )
      ))
    ))
  ) ∧
  (ok475 = true →
  Iter (lethelaw15_SkipsExact_l0 list2) (long154, 0) () ∧
  ∃ x1781 : Option (Int × (List ((BitVec 32 × BitVec 32) × (Nat → BitVec 8))) × (List ((BitVec 32) × (BitVec 32) × (Nat → BitVec 8)))), Iter (lethelaw15_SkipsExact_l1 script3 m474 r) (0, m469, mp471, m473) x1781 ∧ (∀ (m1777 : Int) (mp1779 : List ((BitVec 32 × BitVec 32) × (Nat → BitVec 8))) (m1780 : List ((BitVec 32) × (BitVec 32) × (Nat → BitVec 8))), x1781 = some (m1777, mp1779, m1780) →
  ∃ most2298 : Bool, (
    ∃ x_2311 : Nat, skips_Table_Len m1777 mp1779 x_2311 ∧
    if x_2311 = m1780.length then (
      ∃ x_2315 : List ((BitVec 32) × (BitVec 32) × (Nat → BitVec 8)), skips_Table_List m1777 mp1779 x_2315 ∧
      ∃ x_2323 : Bool, lethelaw15_sameList x_2315 m1780 x_2323 ∧
      most2298 = x_2323
    ) else (
      most2298 = false
    )
  ) ∧
  r = most2298
  )
  )
  )
end Go.Proofs.Ytbkgblhmlenocaa
