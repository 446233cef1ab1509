/-
  WALKS of the package's functions, printed by this session's own program (auto.py).
-/
import Derived.Test.YtjdgbahjpdopbaaDoorProg
import Derived.Test.YtjdgbahjpdopbaaDoorEc
import Derived.Test.YtjdgbahjpdopbaaDoorRBits
import Derived.Test.YtjdgbahjpdopbaaDoorEls
namespace Go.Proofs.YtjdgbahjpdopbaaDoor
set_option linter.unusedSimpArgs false
set_option linter.unusedVariables false
set_option linter.unusedSectionVars false
open Go Go.LW
theorem FBits.u25 : Tryd.prog.underlying 25 = some (.int .u64) := by kernel_rfl
theorem FBits.some3 : (Tryd.prog.underlying 3).isSome = true := by kernel_rfl

set_option maxRecDepth 8000 in
set_option maxHeartbeats 1000000 in
theorem bits_RotateLeft32_ok {B : Nat} {w0 w : World} {L : List Rg} {x_1 : BitVec 32} {k2 : Int} {r : (BitVec 32)} (hR : bits_RotateLeft32 x_1 k2 r) (HST : St B w0 (L) w) :
    Calls Tryd.prog 66 #[VU .u32 x_1, .int .i64 k2] w fun e w' => e = .returned (VU .u32 r) ∧ St B w0 (L) w' := by
  refine W.enter 17 Tryd.func66 rfl rfl rfl ?_
  unfold bits_RotateLeft32 at hR
  refine W.seq_k fun K3 hK3 => ?_
  refine W.regionT [(0, true)] (by kernel_rfl) ?_
  refine Plan.assign_int rfl rfl ?_
  refine Plan.nil ?_
  refine hK3 _ _ ?_; clear hK3
  refine W.seq_k fun K4 hK4 => ?_
  refine W.regionT [(0, true), (1, true), (2, true), (3, true)] (by kernel_rfl) ?_
  refine Plan.move_int rfl rfl ?_
  refine Plan.convIU .u64 (a := k2) FBits.u25 FBits.some3 rfl rfl ?_
  refine Plan.andU .u64 (X := (BitVec.ofInt 64 k2)) (Y := 31#64) rfl rfl rfl ?_
  refine Plan.assign_int rfl rfl ?_
  refine Plan.nil ?_
  refine hK4 _ _ ?_; clear hK4
  refine W.seq_k fun K5 hK5 => ?_
  refine W.regionT [(0, true), (1, true), (2, true), (3, true), (4, true), (5, true), (6, true), (7, true), (8, true)] (by kernel_rfl) ?_
  refine Plan.move_int rfl rfl ?_
  refine Plan.move_int rfl rfl ?_
  refine Plan.shlU .u32 (X := x_1) (c := ((BitVec.ofInt 64 k2) &&& (31#64)).toNat) rfl rfl rfl ?_
  refine Plan.move_int rfl rfl ?_
  refine Plan.move_int rfl rfl ?_
  refine Plan.subU .u64 (X := 32#64) (Y := ((BitVec.ofInt 64 k2) &&& (31#64))) rfl rfl rfl ?_
  refine Plan.shrU .u32 (X := x_1) (c := ((32#64) - ((BitVec.ofInt 64 k2) &&& (31#64))).toNat) rfl rfl rfl ?_
  refine Plan.orU .u32 (X := (x_1 <<< (((BitVec.ofInt 64 k2) &&& (31#64)).toNat))) (Y := (x_1 >>> (((32#64) - ((BitVec.ofInt 64 k2) &&& (31#64))).toNat))) rfl rfl rfl ?_
  refine Plan.assign_int rfl rfl ?_
  refine Plan.nil ?_
  refine hK5 _ _ ?_; clear hK5
  refine W.ret (finR_ret ?_)
  subst r
  refine RetOk.mk (.tmp_int rfl .nil) ?_
  exact ⟨rfl, HST⟩

end Go.Proofs.YtjdgbahjpdopbaaDoor
