/-
  RELATIONS of the package's functions, printed by this session's own program (auto.py).
-/
import Derived.Test.YtbkgblhmlenocaaEd
import Derived.Test.YtbkgblhmlenocaaRLaw23
import Derived.Test.YtbkgblhmlenocaaRNet
import Derived.Test.YtbkgblhmlenocaaRRef23
namespace Go.Proofs.Ytbkgblhmlenocaa
set_option linter.unusedSimpArgs false
set_option linter.unusedVariables false
set_option linter.unusedSectionVars false
open Go Go.LW

def lethelaw23_NetExact_l0 (script3 : List (Int × Int × Int × Int × (List Byte))) (_s : Unit) (o207 : Unit ⊕ (Option Unit)) : Prop :=
  if 0 < script3.length then (
    (0 < script3.length) ∧
    False
  ) else (
    o207 = .inr (some ())
  )
def lethelaw23_NetExact_l1 (script3 : List (Int × Int × Int × Int × (List Byte))) (x_129 : Int) (x_130 : Int) (x_178 : Int) (x_179 : Int) (r : Bool) (s : ((List (Int × (Int × Int × Int × (List Byte)))) × Nat × (List (Int × Int × Int × (List Byte))) × Int × Int)) (o334 : ((List (Int × (Int × Int × Int × (List Byte)))) × Nat × (List (Int × Int × Int × (List Byte))) × Int × Int) ⊕ (Option ((List (Int × (Int × Int × Int × (List Byte)))) × (List (Int × Int × Int × (List Byte))) × Int × Int))) : Prop :=
  match s with
  | (mp325, i_326, m327, m328, m329) =>
    if i_326 < script3.length then (
      if i_326 < 200 then (
        (i_326 < script3.length) ∧
        ∃ x_352 : Bool, ∃ x_353 : Int, ∃ x_354 : List (Int × Int × Int × (List Byte)), ∃ x_355 : Int, ∃ x_356 : List (Int × (Int × Int × Int × (List Byte))), lethelaw23_step x_129 x_130 mp325 m329 x_178 x_179 m327 m328 ((script3.getD i_326 ((0 : Int), (0 : Int), (0 : Int), (0 : Int), ([] : List Byte))).1) ((script3.getD i_326 ((0 : Int), (0 : Int), (0 : Int), (0 : Int), ([] : List Byte))).2.1) ((script3.getD i_326 ((0 : Int), (0 : Int), (0 : Int), (0 : Int), ([] : List Byte))).2.2.1) ((script3.getD i_326 ((0 : Int), (0 : Int), (0 : Int), (0 : Int), ([] : List Byte))).2.2.2.1) ((script3.getD i_326 ((0 : Int), (0 : Int), (0 : Int), (0 : Int), ([] : List Byte))).2.2.2.2) (x_352, x_353, x_354, x_355, x_356) ∧
        if x_352 = true then (
          o334 = .inl (x_356, (i_326 + 1), x_354, x_355, x_353)
        ) else (
          o334 = .inr none ∧ r = false
        )
      ) else (
        o334 = .inr (some (mp325, m327, m328, m329))
      )
    ) else (
      o334 = .inr (some (mp325, m327, m328, m329))
    )
def lethelaw23_NetExact_l2 (script3 : List (Int × Int × Int × Int × (List Byte))) (_s : Unit) (o640 : Unit ⊕ (Option Unit)) : Prop :=
  if 0 < script3.length then (
    (0 < script3.length) ∧
    False
  ) else (
    o640 = .inr (some ())
  )
def lethelaw23_NetExact_l3 (script3 : List (Int × Int × Int × Int × (List Byte))) (x_555 : Int) (x_556 : Int) (x_610 : Int) (x_611 : Int) (r : Bool) (s : ((List (Int × (Int × Int × Int × (List Byte)))) × Nat × (List (Int × Int × Int × (List Byte))) × Int × Int)) (o769 : ((List (Int × (Int × Int × Int × (List Byte)))) × Nat × (List (Int × Int × Int × (List Byte))) × Int × Int) ⊕ (Option ((List (Int × (Int × Int × Int × (List Byte)))) × (List (Int × Int × Int × (List Byte))) × Int × Int))) : Prop :=
  match s with
  | (mp760, i_761, m762, m763, m764) =>
    if i_761 < script3.length then (
      if i_761 < 200 then (
        (i_761 < script3.length) ∧
        ∃ x_787 : Bool, ∃ x_788 : Int, ∃ x_789 : List (Int × Int × Int × (List Byte)), ∃ x_790 : Int, ∃ x_791 : List (Int × (Int × Int × Int × (List Byte))), lethelaw23_step x_555 x_556 mp760 m764 x_610 x_611 m762 m763 ((script3.getD i_761 ((0 : Int), (0 : Int), (0 : Int), (0 : Int), ([] : List Byte))).1) ((script3.getD i_761 ((0 : Int), (0 : Int), (0 : Int), (0 : Int), ([] : List Byte))).2.1) ((script3.getD i_761 ((0 : Int), (0 : Int), (0 : Int), (0 : Int), ([] : List Byte))).2.2.1) ((script3.getD i_761 ((0 : Int), (0 : Int), (0 : Int), (0 : Int), ([] : List Byte))).2.2.2.1) ((script3.getD i_761 ((0 : Int), (0 : Int), (0 : Int), (0 : Int), ([] : List Byte))).2.2.2.2) (x_787, x_788, x_789, x_790, x_791) ∧
        if x_787 = true then (
          o769 = .inl (x_791, (i_761 + 1), x_789, x_790, x_788)
        ) else (
          o769 = .inr none ∧ r = false
        )
      ) else (
        o769 = .inr (some (mp760, m762, m763, m764))
      )
    ) else (
      o769 = .inr (some (mp760, m762, m763, m764))
    )
def lethelaw23_NetExact_l4 (script3 : List (Int × Int × Int × Int × (List Byte))) (_s : Unit) (o918 : Unit ⊕ (Option Unit)) : Prop :=
  if 0 < script3.length then (
    (0 < script3.length) ∧
    False
  ) else (
    o918 = .inr (some ())
  )
def lethelaw23_NetExact_l5 (script3 : List (Int × Int × Int × Int × (List Byte))) (x_8 : Int) (x_9 : Int) (x_880 : Int) (x_881 : Int) (r : Bool) (s : ((List (Int × (Int × Int × Int × (List Byte)))) × Nat × (List (Int × Int × Int × (List Byte))) × Int × Int)) (o1054 : ((List (Int × (Int × Int × Int × (List Byte)))) × Nat × (List (Int × Int × Int × (List Byte))) × Int × Int) ⊕ (Option ((List (Int × (Int × Int × Int × (List Byte)))) × (List (Int × Int × Int × (List Byte))) × Int × Int))) : Prop :=
  match s with
  | (mp1045, i_1046, m1047, m1048, m1049) =>
    if i_1046 < script3.length then (
      if i_1046 < 200 then (
        (i_1046 < script3.length) ∧
        ∃ x_1072 : Bool, ∃ x_1073 : Int, ∃ x_1074 : List (Int × Int × Int × (List Byte)), ∃ x_1075 : Int, ∃ x_1076 : List (Int × (Int × Int × Int × (List Byte))), lethelaw23_step x_8 x_9 mp1045 m1049 x_880 x_881 m1047 m1048 ((script3.getD i_1046 ((0 : Int), (0 : Int), (0 : Int), (0 : Int), ([] : List Byte))).1) ((script3.getD i_1046 ((0 : Int), (0 : Int), (0 : Int), (0 : Int), ([] : List Byte))).2.1) ((script3.getD i_1046 ((0 : Int), (0 : Int), (0 : Int), (0 : Int), ([] : List Byte))).2.2.1) ((script3.getD i_1046 ((0 : Int), (0 : Int), (0 : Int), (0 : Int), ([] : List Byte))).2.2.2.1) ((script3.getD i_1046 ((0 : Int), (0 : Int), (0 : Int), (0 : Int), ([] : List Byte))).2.2.2.2) (x_1072, x_1073, x_1074, x_1075, x_1076) ∧
        if x_1072 = true then (
          o1054 = .inl (x_1076, (i_1046 + 1), x_1074, x_1075, x_1073)
        ) else (
          o1054 = .inr none ∧ r = false
        )
      ) else (
        o1054 = .inr (some (mp1045, m1047, m1048, m1049))
      )
    ) else (
      o1054 = .inr (some (mp1045, m1047, m1048, m1049))
    )
def lethelaw23_NetExact (nodes1 : Int) (most2 : Int) (script3 : List (Int × Int × Int × Int × (List Byte))) (r : Bool) : Prop :=
  ((∃ x_7 : Nat, net_New nodes1 most2 (.inl x_7) ∧
    ((∃ x_18 : Nat, letheref23_New nodes1 most2 (.inl x_18) ∧
      if x_7 ≠ x_18 then (
        r = false
      ) else (
        if (true != true) = true then (
          r = false
        ) else (
          ((∃ x_128 : Nat, net_New 2 3 (.inl x_128) ∧
            ((∃ x_139 : Nat, letheref23_New 2 3 (.inl x_139) ∧
              if x_128 ≠ 0 then (
                r = false
              ) else (
                r = false
              )
            ) ∨ (∃ x_140 : Int, ∃ x_141 : Int, ∃ x_142 : List (Int × Int × Int × (List Byte)), ∃ x_143 : Nat, ∃ x_144 : Nat, letheref23_New 2 3 (.inr (x_140, x_141, x_142, x_143, x_144)) ∧
              if x_128 ≠ 0 then (
                r = false
              ) else (
                r = false
              )
            ))
          ) ∨ (∃ x_129 : Int, ∃ x_130 : Int, ∃ x_131 : List (Int × (Int × Int × Int × (List Byte))), ∃ x_132 : Nat, ∃ x_133 : Nat, net_New 2 3 (.inr (x_129, x_130, x_131, x_132, x_133)) ∧
            ((∃ x_177 : Nat, letheref23_New 2 3 (.inl x_177) ∧
              if x_133 ≠ 0 then (
                r = false
              ) else (
                if x_177 ≠ 0 then (
                  r = false
                ) else (
                  ∃ x207 : Option Unit, Iter (lethelaw23_NetExact_l0 script3) () x207 ∧ (x207 = some () →
                  ∃ x_221 : List (Int × Int × Int × (List Byte)), net_Net_Flights x_129 x_130 x_131 ((x_132 : Nat) : Int) x_221 ∧
                  False
                  )
                )
              )
            ) ∨ (∃ x_178 : Int, ∃ x_179 : Int, ∃ x_180 : List (Int × Int × Int × (List Byte)), ∃ x_181 : Nat, ∃ x_182 : Nat, letheref23_New 2 3 (.inr (x_178, x_179, x_180, x_181, x_182)) ∧
              if x_133 ≠ 0 then (
                r = false
              ) else (
                if x_182 ≠ 0 then (
                  r = false
                ) else (
                  ∃ x334 : Option ((List (Int × (Int × Int × Int × (List Byte)))) × (List (Int × Int × Int × (List Byte))) × Int × Int), Iter (lethelaw23_NetExact_l1 script3 x_129 x_130 x_178 x_179 r) (x_131, 0, x_180, ((x_181 : Nat) : Int), ((x_132 : Nat) : Int)) x334 ∧ (∀ (mp330 : List (Int × (Int × Int × Int × (List Byte)))) (m331 : List (Int × Int × Int × (List Byte))) (m332 : Int) (m333 : Int), x334 = some (mp330, m331, m332, m333) →
                  ∃ x_383 : List (Int × Int × Int × (List Byte)), net_Net_Flights x_129 x_130 mp330 m333 x_383 ∧
                  ∃ x_396 : List (Int × Int × Int × (List Byte)), ∃ x_397 : List (Int × Int × Int × (List Byte)), letheref23_Net_Flights x_178 x_179 m331 m332 (x_396, x_397) ∧
                  ∃ x_414 : Bool, lethelaw23_sameAll x_383 x_396 x_414 ∧
                  if x_414 = true then (
                    ∃ x_419 : Int, net_Net_Next x_129 x_130 mp330 m333 x_419 ∧
                    ∃ x_429 : Int, letheref23_Net_Next x_178 x_179 x_397 m332 x_429 ∧
                    r = (decide (x_419 = x_429))
                  ) else (
                    r = false
                  )
                  )
                )
              )
            ))
          ))
        )
      )
    ) ∨ (∃ x_19 : Int, ∃ x_20 : Int, ∃ x_21 : List (Int × Int × Int × (List Byte)), ∃ x_22 : Nat, ∃ x_23 : Nat, letheref23_New nodes1 most2 (.inr (x_19, x_20, x_21, x_22, x_23)) ∧
      if x_7 ≠ x_23 then (
        r = false
      ) else (
        if (true != false) = true then (
          r = false
        ) else (
          ((∃ x_554 : Nat, net_New 2 3 (.inl x_554) ∧
            ((∃ x_566 : Nat, letheref23_New 2 3 (.inl x_566) ∧
              if x_554 ≠ 0 then (
                r = false
              ) else (
                r = false
              )
            ) ∨ (∃ x_567 : Int, ∃ x_568 : Int, ∃ x_569 : List (Int × Int × Int × (List Byte)), ∃ x_570 : Nat, ∃ x_571 : Nat, letheref23_New 2 3 (.inr (x_567, x_568, x_569, x_570, x_571)) ∧
              if x_554 ≠ 0 then (
                r = false
              ) else (
                r = false
              )
            ))
          ) ∨ (∃ x_555 : Int, ∃ x_556 : Int, ∃ x_557 : List (Int × (Int × Int × Int × (List Byte))), ∃ x_558 : Nat, ∃ x_559 : Nat, net_New 2 3 (.inr (x_555, x_556, x_557, x_558, x_559)) ∧
            ((∃ x_609 : Nat, letheref23_New 2 3 (.inl x_609) ∧
              if x_559 ≠ 0 then (
                r = false
              ) else (
                if x_609 ≠ 0 then (
                  r = false
                ) else (
                  ∃ x640 : Option Unit, Iter (lethelaw23_NetExact_l2 script3) () x640 ∧ (x640 = some () →
                  ∃ x_655 : List (Int × Int × Int × (List Byte)), net_Net_Flights x_555 x_556 x_557 ((x_558 : Nat) : Int) x_655 ∧
                  False
                  )
                )
              )
            ) ∨ (∃ x_610 : Int, ∃ x_611 : Int, ∃ x_612 : List (Int × Int × Int × (List Byte)), ∃ x_613 : Nat, ∃ x_614 : Nat, letheref23_New 2 3 (.inr (x_610, x_611, x_612, x_613, x_614)) ∧
              if x_559 ≠ 0 then (
                r = false
              ) else (
                if x_614 ≠ 0 then (
                  r = false
                ) else (
                  ∃ x769 : Option ((List (Int × (Int × Int × Int × (List Byte)))) × (List (Int × Int × Int × (List Byte))) × Int × Int), Iter (lethelaw23_NetExact_l3 script3 x_555 x_556 x_610 x_611 r) (x_557, 0, x_612, ((x_613 : Nat) : Int), ((x_558 : Nat) : Int)) x769 ∧ (∀ (mp765 : List (Int × (Int × Int × Int × (List Byte)))) (m766 : List (Int × Int × Int × (List Byte))) (m767 : Int) (m768 : Int), x769 = some (mp765, m766, m767, m768) →
                  ∃ x_818 : List (Int × Int × Int × (List Byte)), net_Net_Flights x_555 x_556 mp765 m768 x_818 ∧
                  ∃ x_831 : List (Int × Int × Int × (List Byte)), ∃ x_832 : List (Int × Int × Int × (List Byte)), letheref23_Net_Flights x_610 x_611 m766 m767 (x_831, x_832) ∧
                  ∃ x_849 : Bool, lethelaw23_sameAll x_818 x_831 x_849 ∧
                  if x_849 = true then (
                    ∃ x_854 : Int, net_Net_Next x_555 x_556 mp765 m768 x_854 ∧
                    ∃ x_864 : Int, letheref23_Net_Next x_610 x_611 x_832 m767 x_864 ∧
                    r = (decide (x_854 = x_864))
                  ) else (
                    r = false
                  )
                  )
                )
              )
            ))
          ))
        )
      )
    ))
  ) ∨ (∃ x_8 : Int, ∃ x_9 : Int, ∃ x_10 : List (Int × (Int × Int × Int × (List Byte))), ∃ x_11 : Nat, ∃ x_12 : Nat, net_New nodes1 most2 (.inr (x_8, x_9, x_10, x_11, x_12)) ∧
    ((∃ x_879 : Nat, letheref23_New nodes1 most2 (.inl x_879) ∧
      if x_12 ≠ x_879 then (
        r = false
      ) else (
        if (false != true) = true then (
          r = false
        ) else (
          ∃ x918 : Option Unit, Iter (lethelaw23_NetExact_l4 script3) () x918 ∧ (x918 = some () →
          ∃ x_932 : List (Int × Int × Int × (List Byte)), net_Net_Flights x_8 x_9 x_10 ((x_11 : Nat) : Int) x_932 ∧
          False
          )
        )
      )
    ) ∨ (∃ x_880 : Int, ∃ x_881 : Int, ∃ x_882 : List (Int × Int × Int × (List Byte)), ∃ x_883 : Nat, ∃ x_884 : Nat, letheref23_New nodes1 most2 (.inr (x_880, x_881, x_882, x_883, x_884)) ∧
      if x_12 ≠ x_884 then (
        r = false
      ) else (
        if (false != false) = true then (
          r = false
        ) else (
          ∃ x1054 : Option ((List (Int × (Int × Int × Int × (List Byte)))) × (List (Int × Int × Int × (List Byte))) × Int × Int), Iter (lethelaw23_NetExact_l5 script3 x_8 x_9 x_880 x_881 r) (x_10, 0, x_882, ((x_883 : Nat) : Int), ((x_11 : Nat) : Int)) x1054 ∧ (∀ (mp1050 : List (Int × (Int × Int × Int × (List Byte)))) (m1051 : List (Int × Int × Int × (List Byte))) (m1052 : Int) (m1053 : Int), x1054 = some (mp1050, m1051, m1052, m1053) →
          ∃ x_1103 : List (Int × Int × Int × (List Byte)), net_Net_Flights x_8 x_9 mp1050 m1053 x_1103 ∧
          ∃ x_1116 : List (Int × Int × Int × (List Byte)), ∃ x_1117 : List (Int × Int × Int × (List Byte)), letheref23_Net_Flights x_880 x_881 m1051 m1052 (x_1116, x_1117) ∧
          ∃ x_1134 : Bool, lethelaw23_sameAll x_1103 x_1116 x_1134 ∧
          if x_1134 = true then (
            ∃ x_1139 : Int, net_Net_Next x_8 x_9 mp1050 m1053 x_1139 ∧
            ∃ x_1149 : Int, letheref23_Net_Next x_880 x_881 x_1117 m1052 x_1149 ∧
            r = (decide (x_1139 = x_1149))
          ) else (
            r = false
          )
          )
        )
      )
    ))
  ))
end Go.Proofs.Ytbkgblhmlenocaa
