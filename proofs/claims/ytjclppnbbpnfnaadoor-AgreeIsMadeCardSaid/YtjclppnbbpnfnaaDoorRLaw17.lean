/-
  RELATIONS of the package's functions, printed by this session's own program (auto.py).
-/
import Derived.Test.YtjclppnbbpnfnaaDoorEb
import Derived.Test.YtjclppnbbpnfnaaDoorFldT
import Derived.Test.YtjclppnbbpnfnaaDoorShaM
import Derived.Test.YtjclppnbbpnfnaaDoorRAgree
import Derived.Test.YtjclppnbbpnfnaaDoorRCurve
namespace Go.Proofs.YtjclppnbbpnfnaaDoor
set_option linter.unusedSimpArgs false
set_option linter.unusedVariables false
set_option linter.unusedSectionVars false
open Go Go.LW

def lethelaw17_pair (k1 : Nat → BitVec 8) (r : ((Nat → BitVec 8) × (Nat → BitVec 8))) : Prop :=
  ∃ x_8 : Nat → BitVec 8, curve_Clamp k1 x_8 ∧
  ∃ x_11 : Nat → BitVec 8, curve_Public k1 x_11 ∧
  r = (x_8, x_11)

def lethelaw17_start (pPriv1 : Nat → BitVec 8) (pPub2 : Nat → BitVec 8) (qPriv3 : Nat → BitVec 8) (qPub4 : Nat → BitVec 8) (oIdentity5 : Nat → BitVec 8) (oPrekey6 : BitVec 32) (oKey7 : Nat → BitVec 8) (r : ((Nat → BitVec 8) × (Nat → BitVec 8) × (Nat → BitVec 8) × (Nat → BitVec 8) × (Nat → BitVec 8) × (BitVec 32) × Nat)) : Prop :=
  ∃ x_15 : Nat → BitVec 8, ∃ x_16 : Nat → BitVec 8, ∃ x_17 : Nat → BitVec 8, ∃ x_18 : Nat → BitVec 8, ∃ x_19 : Nat → BitVec 8, ∃ x_20 : BitVec 32, ∃ x_21 : Nat, agree_Start pPriv1 pPub2 qPriv3 qPub4 oIdentity5 oPrekey6 oKey7 (x_15, x_16, x_17, x_18, x_19, x_20, x_21) ∧
  r = (x_15, x_16, x_17, x_18, x_19, x_20, x_21)

def lethelaw17_meet (pPriv1 : Nat → BitVec 8) (pPub2 : Nat → BitVec 8) (qPriv3 : Nat → BitVec 8) (qPub4 : Nat → BitVec 8) (hIdentity5 : Nat → BitVec 8) (hOnce6 : Nat → BitVec 8) (hPrekey7 : BitVec 32) (r : ((Nat → BitVec 8) × (Nat → BitVec 8) × (Nat → BitVec 8) × (Nat → BitVec 8) × (Nat → BitVec 8) × (BitVec 32) × Nat)) : Prop :=
  ∃ x_15 : Nat → BitVec 8, ∃ x_16 : Nat → BitVec 8, ∃ x_17 : Nat → BitVec 8, ∃ x_18 : Nat, agree_Meet pPriv1 pPub2 qPriv3 qPub4 hIdentity5 hOnce6 hPrekey7 (x_15, x_16, x_17, x_18) ∧
  r = (x_15, x_16, x_17, (fun _ => 0#8), (fun _ => 0#8), 0#32, x_18)
end Go.Proofs.YtjclppnbbpnfnaaDoor
