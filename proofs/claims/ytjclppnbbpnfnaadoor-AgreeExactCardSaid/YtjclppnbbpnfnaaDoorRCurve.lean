/-
 RELATIONS of the package's functions, printed by this session's own program (auto.py).
-/
import Derived.Test.YtjclppnbbpnfnaaDoorEb
import Derived.Test.YtjclppnbbpnfnaaDoorFldT
import Derived.Test.YtjclppnbbpnfnaaDoorShaM
import Derived.Test.YtjclppnbbpnfnaaDoorRField
namespace Go.Proofs.YtjclppnbbpnfnaaDoor
set_option linter.unusedSimpArgs false
set_option linter.unusedVariables false
set_option linter.unusedSectionVars false
open Go Go.LW
def curve_Clamp (k1 : Nat → BitVec 8) (r : (Nat → BitVec 8)) : Prop :=
 r = (upd (upd k1 0 ((k1 0) &&& ~~~(7#8))) 31 ((((upd k1 0 ((k1 0) &&& ~~~(7#8))) 31) &&& (127#8)) ||| (64#8)))
def curve_swapped (bit1 : Int) (ax2 : Nat → BitVec 64) (az3 : Nat → BitVec 64) (bx4 : Nat → BitVec 64) (bz5 : Nat → BitVec 64) (r : ((Nat → BitVec 64) × (Nat → BitVec 64) × (Nat → BitVec 64) × (Nat → BitVec 64))) : Prop :=
 ∃ x_13 : Nat → BitVec 64, ∃ x_14 : Nat → BitVec 64, field_Swap bit1 ax2 bx4 (x_13, x_14) ∧
 ∃ x_20 : Nat → BitVec 64, ∃ x_21 : Nat → BitVec 64, field_Swap bit1 az3 bz5 (x_20, x_21) ∧
 r = (x_13, x_20, x_14, x_21)
def curve_step (ul1 : Nat → BitVec 64) (px2 : Nat → BitVec 64) (pz3 : Nat → BitVec 64) (qx4 : Nat → BitVec 64) (qz5 : Nat → BitVec 64) (r : ((Nat → BitVec 64) × (Nat → BitVec 64) × (Nat → BitVec 64) × (Nat → BitVec 64))) : Prop :=
 ∃ x_16 : Nat → BitVec 64, field_Elem_Add px2 pz3 x_16 ∧
 ∃ x_20 : Nat → BitVec 64, field_Elem_Sub px2 pz3 x_20 ∧
 ∃ x_29 : Nat → BitVec 64, field_Elem_Add qx4 qz5 x_29 ∧
 ∃ x_33 : Nat → BitVec 64, field_Elem_Sub qx4 qz5 x_33 ∧
 ∃ x_42 : Nat → BitVec 64, field_Elem_Mul x_33 x_16 x_42 ∧
 ∃ x_46 : Nat → BitVec 64, field_Elem_Mul x_29 x_20 x_46 ∧
 ∃ x_54 : Nat → BitVec 64, field_Elem_Add x_42 x_46 x_54 ∧
 ∃ x_57 : Nat → BitVec 64, field_Elem_Square x_54 x_57 ∧
 ∃ x_60 : Nat → BitVec 64, field_Elem_Sub x_42 x_46 x_60 ∧
 ∃ x_63 : Nat → BitVec 64, field_Elem_Square x_60 x_63 ∧
 ∃ x_66 : Nat → BitVec 64, field_Elem_Mul ul1 x_63 x_66 ∧
 ∃ x_73 : Nat → BitVec 64, field_Elem_Square x_16 x_73 ∧
 ∃ x_77 : Nat → BitVec 64, field_Elem_Square x_20 x_77 ∧
 ∃ x_84 : Nat → BitVec 64, field_Elem_Sub x_73 x_77 x_84 ∧
 ∃ x_91 : Nat → BitVec 64, field_Elem_Mul x_73 x_77 x_91 ∧
 ∃ x_94 : Nat → BitVec 64, field_Small (121665#32) x_94 ∧
 ∃ x_97 : Nat → BitVec 64, field_Elem_Mul x_94 x_84 x_97 ∧
 ∃ x_100 : Nat → BitVec 64, field_Elem_Add x_73 x_97 x_100 ∧
 ∃ x_103 : Nat → BitVec 64, field_Elem_Mul x_84 x_100 x_103 ∧
 r = (x_91, x_103, x_57, x_66)
def curve_Times_l0 (x_9 : Nat → BitVec 8) (x_15 : Nat → BitVec 64) (s : (Nat × Int × (Nat → BitVec 64) × (Nat → BitVec 64) × (Nat → BitVec 64) × (Nat → BitVec 64))) (o135 : (Nat × Int × (Nat → BitVec 64) × (Nat → BitVec 64) × (Nat → BitVec 64) × (Nat → BitVec 64)) ⊕ (Nat × (Nat → BitVec 64) × (Nat → BitVec 64) × (Nat → BitVec 64) × (Nat → BitVec 64))) : Prop :=
 match s with
 | (was124, i_125, m126, m127, m128, m129) =>
   if 0 ≤ i_125 then (
     (-9223372036854775808 ≤ (i_125.tdiv 8) ∧ (i_125.tdiv 8) ≤ 9223372036854775807) ∧
     (0 ≤ (i_125.tdiv 8) ∧ (i_125.tdiv 8) < 32) ∧
     (0 ≤ (i_125.tmod 8)) ∧
     (((((x_9 ((i_125.tdiv 8).toNat)) >>> ((i_125.tmod 8).toNat)).toNat) &&& 1) < 9223372036854775808 ∧ was124 < 9223372036854775808) ∧
     ∃ x_150 : Nat → BitVec 64, ∃ x_151 : Nat → BitVec 64, ∃ x_152 : Nat → BitVec 64, ∃ x_153 : Nat → BitVec 64, curve_swapped (((((((x_9 ((i_125.tdiv 8).toNat)) >>> ((i_125.tmod 8).toNat)).toNat) &&& 1) ^^^ was124) : Nat) : Int) m126 m127 m128 m129 (x_150, x_151, x_152, x_153) ∧
     ∃ x_159 : Nat → BitVec 64, ∃ x_160 : Nat → BitVec 64, ∃ x_161 : Nat → BitVec 64, ∃ x_162 : Nat → BitVec 64, curve_step x_15 x_150 x_151 x_152 x_153 (x_159, x_160, x_161, x_162) ∧
     (-9223372036854775808 ≤ (i_125 - 1) ∧ (i_125 - 1) ≤ 9223372036854775807) ∧
     o135 = .inl (((((x_9 ((i_125.tdiv 8).toNat)) >>> ((i_125.tmod 8).toNat)).toNat) &&& 1), (i_125 - 1), x_159, x_160, x_161, x_162)
   ) else (
     o135 = .inr (was124, m126, m127, m128, m129)
   )
def curve_Times (scalar1 : Nat → BitVec 8) (u2 : Nat → BitVec 8) (r : (Nat → BitVec 8)) : Prop :=
 ∃ x_9 : Nat → BitVec 8, curve_Clamp scalar1 x_9 ∧
 ∃ x_15 : Nat → BitVec 64, field_Read u2 x_15 ∧
 ∃ x_21 : Nat → BitVec 64, field_Small (1#32) x_21 ∧
 ∃ was130 : Nat, ∃ m131 : Nat → BitVec 64, ∃ m132 : Nat → BitVec 64, ∃ m133 : Nat → BitVec 64, ∃ m134 : Nat → BitVec 64, Iter (curve_Times_l0 x_9 x_15) (0, 254, x_21, (fun _ => 0#64), x_15, x_21) (was130, m131, m132, m133, m134) ∧
 ∃ x_171 : Nat → BitVec 64, ∃ x_172 : Nat → BitVec 64, ∃ x_173 : Nat → BitVec 64, ∃ x_174 : Nat → BitVec 64, curve_swapped ((was130 : Nat) : Int) m131 m132 m133 m134 (x_171, x_172, x_173, x_174) ∧
 ∃ x_180 : Nat → BitVec 64, field_Elem_Inv x_172 x_180 ∧
 ∃ x_183 : Nat → BitVec 64, field_Elem_Mul x_171 x_180 x_183 ∧
 ∃ x_186 : Nat → BitVec 8, field_Elem_Bytes x_183 x_186 ∧
 r = x_186
def curve_Shared (priv1 : Nat → BitVec 8) (pub2 : Nat → BitVec 8) (r : ((Nat → BitVec 8) × Nat)) : Prop :=
 ∃ x_9 : Nat → BitVec 8, curve_Times priv1 pub2 x_9 ∧
 if (eqB 32 x_9 (fun _ => 0#8)) = true then (
   r = (x_9, 70)
 ) else (
   r = (x_9, 0)
 )
end Go.Proofs.YtjclppnbbpnfnaaDoor
