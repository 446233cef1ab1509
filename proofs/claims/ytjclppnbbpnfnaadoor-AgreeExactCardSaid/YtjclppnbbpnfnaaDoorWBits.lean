/-
 WALKS of the package's functions, printed by this session's own program (auto.py).
-/
import Derived.Test.YtjclppnbbpnfnaaDoorProg
import Derived.Test.YtjclppnbbpnfnaaDoorEb
import Derived.Test.YtjclppnbbpnfnaaDoorRBits
import Derived.Test.YtjclppnbbpnfnaaDoorEls
namespace Go.Proofs.YtjclppnbbpnfnaaDoor
set_option linter.unusedSimpArgs false
set_option linter.unusedVariables false
set_option linter.unusedSectionVars false
set_option maxRecDepth 8000
set_option maxHeartbeats 1000000
open Go Go.LW
theorem FBits.call56 : callB Tryd.prog 56 = true := by kernel_rfl
theorem FBits.u91 : Tryd.prog.underlying 91 = some (.int .u64) := by kernel_rfl
theorem FBits.some3 : (Tryd.prog.underlying 3).isSome = true := by kernel_rfl
theorem bits_Mul64_ok {B : Nat} {w0 w : World} {L : List Rg} {x_1 : BitVec 64} {y2 : BitVec 64} {r : ((BitVec 64) × (BitVec 64))} (hR : bits_Mul64 x_1 y2 r) (HST : St B w0 (L) w) :
  Calls Tryd.prog 56 #[VU .u64 x_1, VU .u64 y2] w fun e w' => e = .returned (.tuple #[VU .u64 r.1, VU .u64 r.2]) ∧ St B w0 (L) w' := by
 refine W.enter 51 Tryd.func56 rfl rfl rfl ?_
 unfold bits_Mul64 at hR
 refine W.seq_k fun _ k3 => W.regionT [(0, true), (1, true)] (by kernel_rfl) ?_
 refine Plan.assign_int rfl rfl <| Plan.assign_int rfl rfl <| Plan.nil (k3 _ _ ?_); clear k3
 refine W.seq_k fun _ k4 => W.regionT [(0, true), (1, true), (2, true)] (by kernel_rfl) ?_
 refine Plan.move_int rfl rfl <| Plan.andU .u64 (X := x_1) (Y := 4294967295#64) rfl rfl rfl <| Plan.assign_int rfl rfl <| Plan.nil (k4 _ _ ?_); clear k4
 refine W.seq_k fun _ k5 => W.regionT [(0, true), (1, true), (2, true)] (by kernel_rfl) ?_
 refine Plan.move_int rfl rfl <| Plan.shrU .u64 (X := x_1) (c := 32) rfl rfl rfl <| Plan.assign_int rfl rfl <| Plan.nil (k5 _ _ ?_); clear k5
 refine W.seq_k fun _ k6 => W.regionT [(0, true), (1, true), (2, true)] (by kernel_rfl) ?_
 refine Plan.move_int rfl rfl <| Plan.andU .u64 (X := y2) (Y := 4294967295#64) rfl rfl rfl <| Plan.assign_int rfl rfl <| Plan.nil (k6 _ _ ?_); clear k6
 refine W.seq_k fun _ k7 => W.regionT [(0, true), (1, true), (2, true)] (by kernel_rfl) ?_
 refine Plan.move_int rfl rfl <| Plan.shrU .u64 (X := y2) (c := 32) rfl rfl rfl <| Plan.assign_int rfl rfl <| Plan.nil (k7 _ _ ?_); clear k7
 refine W.seq_k fun _ k8 => W.regionT [(0, true), (1, true), (2, true), (3, true)] (by kernel_rfl) ?_
 refine Plan.move_int rfl rfl <| Plan.move_int rfl rfl <| Plan.mulU .u64 (X := (x_1 &&& (4294967295#64))) (Y := (y2 &&& (4294967295#64))) rfl rfl rfl <| Plan.assign_int rfl rfl <| Plan.nil (k8 _ _ ?_); clear k8
 refine W.seq_k fun _ k9 => W.regionT [(0, true), (1, true), (2, true), (3, true), (4, true), (5, true), (6, true)] (by kernel_rfl) ?_
 refine Plan.move_int rfl rfl <| Plan.move_int rfl rfl <| Plan.mulU .u64 (X := (x_1 >>> 32)) (Y := (y2 &&& (4294967295#64))) rfl rfl rfl <| Plan.move_int rfl rfl <| Plan.shrU .u64 (X := ((x_1 &&& (4294967295#64)) * (y2 &&& (4294967295#64)))) (c := 32) rfl rfl rfl <| Plan.addU .u64 (X := ((x_1 >>> 32) * (y2 &&& (4294967295#64)))) (Y := (((x_1 &&& (4294967295#64)) * (y2 &&& (4294967295#64))) >>> 32)) rfl rfl rfl <| Plan.assign_int rfl rfl <| Plan.nil (k9 _ _ ?_); clear k9
 refine W.seq_k fun _ k10 => W.regionT [(0, true), (1, true), (2, true)] (by kernel_rfl) ?_
 refine Plan.move_int rfl rfl <| Plan.andU .u64 (X := (((x_1 >>> 32) * (y2 &&& (4294967295#64))) + (((x_1 &&& (4294967295#64)) * (y2 &&& (4294967295#64))) >>> 32))) (Y := 4294967295#64) rfl rfl rfl <| Plan.assign_int rfl rfl <| Plan.nil (k10 _ _ ?_); clear k10
 refine W.seq_k fun _ k11 => W.regionT [(0, true), (1, true), (2, true)] (by kernel_rfl) ?_
 refine Plan.move_int rfl rfl <| Plan.shrU .u64 (X := (((x_1 >>> 32) * (y2 &&& (4294967295#64))) + (((x_1 &&& (4294967295#64)) * (y2 &&& (4294967295#64))) >>> 32))) (c := 32) rfl rfl rfl <| Plan.assign_int rfl rfl <| Plan.nil (k11 _ _ ?_); clear k11
 refine W.seq_k fun _ k12 => W.regionT [(0, true), (1, true), (2, true), (3, true), (4, true), (5, true)] (by kernel_rfl) ?_
 refine Plan.move_int rfl rfl <| Plan.move_int rfl rfl <| Plan.move_int rfl rfl <| Plan.mulU .u64 (X := (x_1 &&& (4294967295#64))) (Y := (y2 >>> 32)) rfl rfl rfl <| Plan.addU .u64 (X := ((((x_1 >>> 32) * (y2 &&& (4294967295#64))) + (((x_1 &&& (4294967295#64)) * (y2 &&& (4294967295#64))) >>> 32)) &&& (4294967295#64))) (Y := ((x_1 &&& (4294967295#64)) * (y2 >>> 32))) rfl rfl rfl <| Plan.assign_int rfl rfl <| Plan.nil (k12 _ _ ?_); clear k12
 refine W.seq_k fun _ k13 => W.regionT [(0, true), (1, true), (2, true), (3, true), (4, true), (5, true), (6, true), (7, true), (8, true)] (by kernel_rfl) ?_
 refine Plan.move_int rfl rfl <| Plan.move_int rfl rfl <| Plan.mulU .u64 (X := (x_1 >>> 32)) (Y := (y2 >>> 32)) rfl rfl rfl <| Plan.move_int rfl rfl <| Plan.addU .u64 (X := ((x_1 >>> 32) * (y2 >>> 32))) (Y := ((((x_1 >>> 32) * (y2 &&& (4294967295#64))) + (((x_1 &&& (4294967295#64)) * (y2 &&& (4294967295#64))) >>> 32)) >>> 32)) rfl rfl rfl <| Plan.move_int rfl rfl <| Plan.shrU .u64 (X := (((((x_1 >>> 32) * (y2 &&& (4294967295#64))) + (((x_1 &&& (4294967295#64)) * (y2 &&& (4294967295#64))) >>> 32)) &&& (4294967295#64)) + ((x_1 &&& (4294967295#64)) * (y2 >>> 32)))) (c := 32) rfl rfl rfl <| Plan.addU .u64 (X := (((x_1 >>> 32) * (y2 >>> 32)) + ((((x_1 >>> 32) * (y2 &&& (4294967295#64))) + (((x_1 &&& (4294967295#64)) * (y2 &&& (4294967295#64))) >>> 32)) >>> 32))) (Y := ((((((x_1 >>> 32) * (y2 &&& (4294967295#64))) + (((x_1 &&& (4294967295#64)) * (y2 &&& (4294967295#64))) >>> 32)) &&& (4294967295#64)) + ((x_1 &&& (4294967295#64)) * (y2 >>> 32))) >>> 32)) rfl rfl rfl ?_
 refine Plan.assign_int rfl rfl <| Plan.nil (k13 _ _ ?_); clear k13
 refine W.seq_k fun _ k14 => W.regionT [(0, true), (1, true), (2, true), (3, true)] (by kernel_rfl) ?_
 refine Plan.move_int rfl rfl <| Plan.move_int rfl rfl <| Plan.mulU .u64 (X := x_1) (Y := y2) rfl rfl rfl <| Plan.assign_int rfl rfl <| Plan.nil (k14 _ _ ?_); clear k14
 refine W.ret (finR_ret ?_)
 subst r
 refine RetOk.mk (.tmp_int rfl (.tmp_int rfl .nil)) ?_
 exact ⟨rfl, HST⟩
theorem bits_Mul_ok {B : Nat} {w0 w : World} {L : List Rg} {x_1 : BitVec 64} {y2 : BitVec 64} {r : ((BitVec 64) × (BitVec 64))} (hR : bits_Mul x_1 y2 r) (HST : St B w0 (L) w) :
  Calls Tryd.prog 54 #[VU .u64 x_1, VU .u64 y2] w fun e w' => e = .returned (.tuple #[VU .u64 r.1, VU .u64 r.2]) ∧ St B w0 (L) w' := by
 refine W.enter 30 Tryd.func54 rfl rfl rfl ?_
 unfold bits_Mul at hR
 refine W.seq_k fun _ k3 => W.regionT [(0, true), (1, true)] (by kernel_rfl) ?_
 refine Plan.assign_int rfl rfl <| Plan.assign_int rfl rfl <| Plan.nil (k3 _ _ ?_); clear k3
 refine W.seq_k fun _ k4 => ?_
 refine W.condF rfl ?_
 refine W.skip ?_
 refine k4 _ _ ?_; clear k4
 refine W.seq_k fun _ k5 => W.regionT [(0, true), (1, true), (2, false), (3, true), (4, true), (5, true), (6, true), (7, true)] (by kernel_rfl) ?_
 refine Plan.move_int rfl rfl <| Plan.move_int rfl rfl ?_
 obtain ⟨x_7, x_8, hr6, hR⟩ := hR
 refine Plan.call (vs := [VU .u64 x_1, VU .u64 y2]) rfl FBits.call56 rfl (bits_Mul64_ok  hr6 HST) ?_
 rintro _ w9 ⟨rfl, h9⟩
 refine ⟨_, rfl, .inl ⟨PIn.keep PIn.nil h9, ?_⟩⟩
 refine Plan.move_tuple rfl rfl <| Plan.extract_int rfl rfl rfl <| Plan.extract_int rfl rfl rfl <| Plan.assign_int rfl rfl <| Plan.assign_int rfl rfl <| Plan.nil (k5 _ _ ?_); clear k5
 refine W.seq_k fun _ k10 => W.regionT [(0, true), (1, true), (2, true), (3, true)] (by kernel_rfl) ?_
 refine Plan.move_int rfl rfl <| Plan.move_int rfl rfl <| Plan.assign_int rfl rfl <| Plan.assign_int rfl rfl <| Plan.nil (k10 _ _ ?_); clear k10
 refine W.ret (finR_ret ?_)
 subst r
 refine RetOk.mk (.tmp_int rfl (.tmp_int rfl .nil)) ?_
 exact ⟨rfl, h9⟩
theorem bits_RotateLeft32_ok {B : Nat} {w0 w : World} {L : List Rg} {x_1 : BitVec 32} {k2 : Int} {r : (BitVec 32)} (hR : bits_RotateLeft32 x_1 k2 r) (HST : St B w0 (L) w) :
  Calls Tryd.prog 74 #[VU .u32 x_1, .int .i64 k2] w fun e w' => e = .returned (VU .u32 r) ∧ St B w0 (L) w' := by
 refine W.enter 17 Tryd.func74 rfl rfl rfl ?_
 unfold bits_RotateLeft32 at hR
 refine W.seq_k fun _ k3 => W.regionT [(0, true)] (by kernel_rfl) ?_
 refine Plan.assign_int rfl rfl <| Plan.nil (k3 _ _ ?_); clear k3
 refine W.seq_k fun _ k4 => W.regionT [(0, true), (1, true), (2, true), (3, true)] (by kernel_rfl) ?_
 refine Plan.move_int rfl rfl <| Plan.convIU .u64 (a := k2) FBits.u91 FBits.some3 rfl rfl <| Plan.andU .u64 (X := (BitVec.ofInt 64 k2)) (Y := 31#64) rfl rfl rfl <| Plan.assign_int rfl rfl <| Plan.nil (k4 _ _ ?_); clear k4
 refine W.seq_k fun _ k5 => W.regionT [(0, true), (1, true), (2, true), (3, true), (4, true), (5, true), (6, true), (7, true), (8, true)] (by kernel_rfl) ?_
 refine Plan.move_int rfl rfl <| Plan.move_int rfl rfl <| Plan.shlU .u32 (X := x_1) (c := ((BitVec.ofInt 64 k2) &&& (31#64)).toNat) rfl rfl rfl <| Plan.move_int rfl rfl <| Plan.move_int rfl rfl <| Plan.subU .u64 (X := 32#64) (Y := ((BitVec.ofInt 64 k2) &&& (31#64))) rfl rfl rfl <| Plan.shrU .u32 (X := x_1) (c := ((32#64) - ((BitVec.ofInt 64 k2) &&& (31#64))).toNat) rfl rfl rfl <| Plan.orU .u32 (X := (x_1 <<< (((BitVec.ofInt 64 k2) &&& (31#64)).toNat))) (Y := (x_1 >>> (((32#64) - ((BitVec.ofInt 64 k2) &&& (31#64))).toNat))) rfl rfl rfl ?_
 refine Plan.assign_int rfl rfl <| Plan.nil (k5 _ _ ?_); clear k5
 refine W.ret (finR_ret ?_)
 subst r
 refine RetOk.mk (.tmp_int rfl .nil) ?_
 exact ⟨rfl, HST⟩
end Go.Proofs.YtjclppnbbpnfnaaDoor
