/-
 RELATIONS of the package's functions, printed by this session's own program (auto.py).
-/
import Derived.Test.YtjclppnbbpnfnaaDoorEb
import Derived.Test.YtjclppnbbpnfnaaDoorFldT
import Derived.Test.YtjclppnbbpnfnaaDoorShaM
import Derived.Test.YtjclppnbbpnfnaaDoorRAgree
import Derived.Test.YtjclppnbbpnfnaaDoorRCurve
import Derived.Test.YtjclppnbbpnfnaaDoorRRef17
namespace Go.Proofs.YtjclppnbbpnfnaaDoor
set_option linter.unusedSimpArgs false
set_option linter.unusedVariables false
set_option linter.unusedSectionVars false
open Go Go.LW
def lethelaw17_start (pPriv1 : Nat → BitVec 8) (pPub2 : Nat → BitVec 8) (qPriv3 : Nat → BitVec 8) (qPub4 : Nat → BitVec 8) (oIdentity5 : Nat → BitVec 8) (oPrekey6 : BitVec 32) (oKey7 : Nat → BitVec 8) (r : ((Nat → BitVec 8) × (Nat → BitVec 8) × (Nat → BitVec 8) × (Nat → BitVec 8) × (Nat → BitVec 8) × (BitVec 32) × Nat)) : Prop :=
 ∃ x_15 : Nat → BitVec 8, ∃ x_16 : Nat → BitVec 8, ∃ x_17 : Nat → BitVec 8, ∃ x_18 : Nat → BitVec 8, ∃ x_19 : Nat → BitVec 8, ∃ x_20 : BitVec 32, ∃ x_21 : Nat, agree_Start pPriv1 pPub2 qPriv3 qPub4 oIdentity5 oPrekey6 oKey7 (x_15, x_16, x_17, x_18, x_19, x_20, x_21) ∧
 r = (x_15, x_16, x_17, x_18, x_19, x_20, x_21)
def lethelaw17_meet (pPriv1 : Nat → BitVec 8) (pPub2 : Nat → BitVec 8) (qPriv3 : Nat → BitVec 8) (qPub4 : Nat → BitVec 8) (hIdentity5 : Nat → BitVec 8) (hOnce6 : Nat → BitVec 8) (hPrekey7 : BitVec 32) (r : ((Nat → BitVec 8) × (Nat → BitVec 8) × (Nat → BitVec 8) × (Nat → BitVec 8) × (Nat → BitVec 8) × (BitVec 32) × Nat)) : Prop :=
 ∃ x_15 : Nat → BitVec 8, ∃ x_16 : Nat → BitVec 8, ∃ x_17 : Nat → BitVec 8, ∃ x_18 : Nat, agree_Meet pPriv1 pPub2 qPriv3 qPub4 hIdentity5 hOnce6 hPrekey7 (x_15, x_16, x_17, x_18) ∧
 r = (x_15, x_16, x_17, (fun _ => 0#8), (fun _ => 0#8), 0#32, x_18)
def lethelaw17_plays (oKind1 : Int) (oP2 : Nat → BitVec 8) (oP3 : Nat → BitVec 8) (oQ4 : Nat → BitVec 8) (oQ5 : Nat → BitVec 8) (oOffer6 : Nat → BitVec 8) (oOffer7 : BitVec 32) (oOffer8 : Nat → BitVec 8) (oHello9 : Nat → BitVec 8) (oHello10 : Nat → BitVec 8) (oHello11 : BitVec 32) (r : Bool) : Prop :=
 if oKind1 = 1 then (
   ∃ x_21 : Nat → BitVec 8, ∃ x_22 : Nat → BitVec 8, ∃ x_23 : Nat → BitVec 8, ∃ x_24 : Nat → BitVec 8, ∃ x_25 : Nat → BitVec 8, ∃ x_26 : BitVec 32, ∃ x_27 : Nat, lethelaw17_start oP2 oP3 oQ4 oQ5 oOffer6 oOffer7 oOffer8 (x_21, x_22, x_23, x_24, x_25, x_26, x_27) ∧
   ∃ x_30 : Nat → BitVec 8, ∃ x_31 : Nat → BitVec 8, ∃ x_32 : Nat → BitVec 8, ∃ x_33 : Nat → BitVec 8, ∃ x_34 : Nat → BitVec 8, ∃ x_35 : BitVec 32, ∃ x_36 : Nat, letheref17_Start oP2 oP3 oQ4 oQ5 oOffer6 oOffer7 oOffer8 (x_30, x_31, x_32, x_33, x_34, x_35, x_36) ∧
   r = ((eqB 32 x_21 x_30) && ((eqB 16 x_22 x_31) && ((eqB 64 x_23 x_32) && (((eqB 32 x_24 x_33) && ((eqB 32 x_25 x_34) && ((decide (x_26 = x_35)) && true))) && ((decide ((x_27 : Nat) = x_36)) && true)))))
 ) else (
   if oKind1 = 2 then (
     ∃ x_44 : Nat → BitVec 8, ∃ x_45 : Nat → BitVec 8, ∃ x_46 : Nat → BitVec 8, ∃ x_47 : Nat → BitVec 8, ∃ x_48 : Nat → BitVec 8, ∃ x_49 : BitVec 32, ∃ x_50 : Nat, lethelaw17_meet oP2 oP3 oQ4 oQ5 oHello9 oHello10 oHello11 (x_44, x_45, x_46, x_47, x_48, x_49, x_50) ∧
     ∃ x_53 : Nat → BitVec 8, ∃ x_54 : Nat → BitVec 8, ∃ x_55 : Nat → BitVec 8, ∃ x_56 : Nat → BitVec 8, ∃ x_57 : Nat → BitVec 8, ∃ x_58 : BitVec 32, ∃ x_59 : Nat, letheref17_Meet oP2 oP3 oQ4 oQ5 oHello9 oHello10 oHello11 (x_53, x_54, x_55, x_56, x_57, x_58, x_59) ∧
     r = ((eqB 32 x_44 x_53) && ((eqB 16 x_45 x_54) && ((eqB 64 x_46 x_55) && (((eqB 32 x_47 x_56) && ((eqB 32 x_48 x_57) && ((decide (x_49 = x_58)) && true))) && ((decide ((x_50 : Nat) = x_59)) && true)))))
   ) else (
     r = true
   )
 )
end Go.Proofs.YtjclppnbbpnfnaaDoor
