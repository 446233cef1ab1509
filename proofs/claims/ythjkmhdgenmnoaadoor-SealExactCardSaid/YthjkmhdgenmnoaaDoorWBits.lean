/-
 WALKS of the package's functions, printed by this session's own program (auto.py).
-/
import Derived.Test.YthjkmhdgenmnoaaDoorProg
import Derived.Test.YthjkmhdgenmnoaaDoorEc
import Derived.Test.YthjkmhdgenmnoaaDoorRBits
import Derived.Test.YthjkmhdgenmnoaaDoorEls
namespace Go.Proofs.YthjkmhdgenmnoaaDoor
set_option linter.unusedSimpArgs false
set_option linter.unusedVariables false
set_option linter.unusedSectionVars false
set_option maxRecDepth 8000
set_option maxHeartbeats 1000000
open Go Go.LW
theorem FBits.u92 : Tryd.prog.underlying 92 = some (.int .u64) := by kernel_rfl
theorem FBits.some3 : (Tryd.prog.underlying 3).isSome = true := by kernel_rfl
theorem bits_RotateLeft32_ok {B : Nat} {w0 w : World} {L : List Rg} {x_1 : BitVec 32} {k2 : Int} {r : (BitVec 32)} (hR : bits_RotateLeft32 x_1 k2 r) (HST : St B w0 (L) w) :
  Calls Tryd.prog 67 #[VU .u32 x_1, .int .i64 k2] w fun e w' => e = .returned (VU .u32 r) ∧ St B w0 (L) w' := by
 refine W.enter 17 Tryd.func67 rfl rfl rfl ?_
 unfold bits_RotateLeft32 at hR
 refine W.seq_k fun _ k3 => W.regionT [(0, true)] (by kernel_rfl) ?_
 refine Plan.assign_int rfl rfl <| Plan.nil (k3 _ _ ?_); clear k3
 refine W.seq_k fun _ k4 => W.regionT [(0, true), (1, true), (2, true), (3, true)] (by kernel_rfl) ?_
 refine Plan.move_int rfl rfl <| Plan.convIU .u64 (a := k2) FBits.u92 FBits.some3 rfl rfl <| Plan.andU .u64 (X := (BitVec.ofInt 64 k2)) (Y := 31#64) rfl rfl rfl <| Plan.assign_int rfl rfl <| Plan.nil (k4 _ _ ?_); clear k4
 refine W.seq_k fun _ k5 => W.regionT [(0, true), (1, true), (2, true), (3, true), (4, true), (5, true), (6, true), (7, true), (8, true)] (by kernel_rfl) ?_
 refine Plan.move_int rfl rfl <| Plan.move_int rfl rfl <| Plan.shlU .u32 (X := x_1) (c := ((BitVec.ofInt 64 k2) &&& (31#64)).toNat) rfl rfl rfl <| Plan.move_int rfl rfl <| Plan.move_int rfl rfl <| Plan.subU .u64 (X := 32#64) (Y := ((BitVec.ofInt 64 k2) &&& (31#64))) rfl rfl rfl <| Plan.shrU .u32 (X := x_1) (c := ((32#64) - ((BitVec.ofInt 64 k2) &&& (31#64))).toNat) rfl rfl rfl <| Plan.orU .u32 (X := (x_1 <<< (((BitVec.ofInt 64 k2) &&& (31#64)).toNat))) (Y := (x_1 >>> (((32#64) - ((BitVec.ofInt 64 k2) &&& (31#64))).toNat))) rfl rfl rfl ?_
 refine Plan.assign_int rfl rfl <| Plan.nil (k5 _ _ ?_); clear k5
 refine W.ret (finR_ret ?_)
 subst r
 refine RetOk.mk (.tmp_int rfl .nil) ?_
 exact ⟨rfl, HST⟩
end Go.Proofs.YthjkmhdgenmnoaaDoor
