/-
  WALKS of the package's functions, printed by this session's own program (auto.py).
-/
import Derived.Test.YtjclppnbbpnfnaaDoorProg
import Derived.Test.YtjclppnbbpnfnaaDoorEb
import Derived.Test.YtjclppnbbpnfnaaDoorRBits
import Derived.Test.YtjclppnbbpnfnaaDoorEls
namespace Go.Proofs.YtjclppnbbpnfnaaDoor
set_option linter.unusedSimpArgs false
set_option linter.unusedVariables false
set_option linter.unusedSectionVars false
open Go Go.LW
theorem FBits.call56 : callB Tryd.prog 56 = true := by kernel_rfl
theorem FBits.u91 : Tryd.prog.underlying 91 = some (.int .u64) := by kernel_rfl
theorem FBits.some3 : (Tryd.prog.underlying 3).isSome = true := by kernel_rfl

set_option maxRecDepth 8000 in
set_option maxHeartbeats 1000000 in
theorem bits_Mul64_ok {B : Nat} {w0 w : World} {L : List Rg} {x_1 : BitVec 64} {y2 : BitVec 64} {r : ((BitVec 64) × (BitVec 64))} (hR : bits_Mul64 x_1 y2 r) (HST : St B w0 (L) w) :
    Calls Tryd.prog 56 #[VU .u64 x_1, VU .u64 y2] w fun e w' => e = .returned (.tuple #[VU .u64 r.1, VU .u64 r.2]) ∧ St B w0 (L) w' := by
  refine W.enter 51 Tryd.func56 rfl rfl rfl ?_
  unfold bits_Mul64 at hR
  refine W.seq_k fun K3 hK3 => ?_
  refine W.regionT [(0, true), (1, true)] (by kernel_rfl) ?_
  refine Plan.assign_int rfl rfl ?_
  refine Plan.assign_int rfl rfl ?_
  refine Plan.nil ?_
  refine hK3 _ _ ?_; clear hK3
  refine W.seq_k fun K4 hK4 => ?_
  refine W.regionT [(0, true), (1, true), (2, true)] (by kernel_rfl) ?_
  refine Plan.move_int rfl rfl ?_
  refine Plan.andU .u64 (X := x_1) (Y := 4294967295#64) rfl rfl rfl ?_
  refine Plan.assign_int rfl rfl ?_
  refine Plan.nil ?_
  refine hK4 _ _ ?_; clear hK4
  refine W.seq_k fun K5 hK5 => ?_
  refine W.regionT [(0, true), (1, true), (2, true)] (by kernel_rfl) ?_
  refine Plan.move_int rfl rfl ?_
  refine Plan.shrU .u64 (X := x_1) (c := 32) rfl rfl rfl ?_
  refine Plan.assign_int rfl rfl ?_
  refine Plan.nil ?_
  refine hK5 _ _ ?_; clear hK5
  refine W.seq_k fun K6 hK6 => ?_
  refine W.regionT [(0, true), (1, true), (2, true)] (by kernel_rfl) ?_
  refine Plan.move_int rfl rfl ?_
  refine Plan.andU .u64 (X := y2) (Y := 4294967295#64) rfl rfl rfl ?_
  refine Plan.assign_int rfl rfl ?_
  refine Plan.nil ?_
  refine hK6 _ _ ?_; clear hK6
  refine W.seq_k fun K7 hK7 => ?_
  refine W.regionT [(0, true), (1, true), (2, true)] (by kernel_rfl) ?_
  refine Plan.move_int rfl rfl ?_
  refine Plan.shrU .u64 (X := y2) (c := 32) rfl rfl rfl ?_
  refine Plan.assign_int rfl rfl ?_
  refine Plan.nil ?_
  refine hK7 _ _ ?_; clear hK7
  refine W.seq_k fun K8 hK8 => ?_
  refine W.regionT [(0, true), (1, true), (2, true), (3, true)] (by kernel_rfl) ?_
  refine Plan.move_int rfl rfl ?_
  refine Plan.move_int rfl rfl ?_
  refine Plan.mulU .u64 (X := (x_1 &&& (4294967295#64))) (Y := (y2 &&& (4294967295#64))) rfl rfl rfl ?_
  refine Plan.assign_int rfl rfl ?_
  refine Plan.nil ?_
  refine hK8 _ _ ?_; clear hK8
  refine W.seq_k fun K9 hK9 => ?_
  refine W.regionT [(0, true), (1, true), (2, true), (3, true), (4, true), (5, true), (6, true)] (by kernel_rfl) ?_
  refine Plan.move_int rfl rfl ?_
  refine Plan.move_int rfl rfl ?_
  refine Plan.mulU .u64 (X := (x_1 >>> 32)) (Y := (y2 &&& (4294967295#64))) rfl rfl rfl ?_
  refine Plan.move_int rfl rfl ?_
  refine Plan.shrU .u64 (X := ((x_1 &&& (4294967295#64)) * (y2 &&& (4294967295#64)))) (c := 32) rfl rfl rfl ?_
  refine Plan.addU .u64 (X := ((x_1 >>> 32) * (y2 &&& (4294967295#64)))) (Y := (((x_1 &&& (4294967295#64)) * (y2 &&& (4294967295#64))) >>> 32)) rfl rfl rfl ?_
  refine Plan.assign_int rfl rfl ?_
  refine Plan.nil ?_
  refine hK9 _ _ ?_; clear hK9
  refine W.seq_k fun K10 hK10 => ?_
  refine W.regionT [(0, true), (1, true), (2, true)] (by kernel_rfl) ?_
  refine Plan.move_int rfl rfl ?_
  refine Plan.andU .u64 (X := (((x_1 >>> 32) * (y2 &&& (4294967295#64))) + (((x_1 &&& (4294967295#64)) * (y2 &&& (4294967295#64))) >>> 32))) (Y := 4294967295#64) rfl rfl rfl ?_
  refine Plan.assign_int rfl rfl ?_
  refine Plan.nil ?_
  refine hK10 _ _ ?_; clear hK10
  refine W.seq_k fun K11 hK11 => ?_
  refine W.regionT [(0, true), (1, true), (2, true)] (by kernel_rfl) ?_
  refine Plan.move_int rfl rfl ?_
  refine Plan.shrU .u64 (X := (((x_1 >>> 32) * (y2 &&& (4294967295#64))) + (((x_1 &&& (4294967295#64)) * (y2 &&& (4294967295#64))) >>> 32))) (c := 32) rfl rfl rfl ?_
  refine Plan.assign_int rfl rfl ?_
  refine Plan.nil ?_
  refine hK11 _ _ ?_; clear hK11
  refine W.seq_k fun K12 hK12 => ?_
  refine W.regionT [(0, true), (1, true), (2, true), (3, true), (4, true), (5, true)] (by kernel_rfl) ?_
  refine Plan.move_int rfl rfl ?_
  refine Plan.move_int rfl rfl ?_
  refine Plan.move_int rfl rfl ?_
  refine Plan.mulU .u64 (X := (x_1 &&& (4294967295#64))) (Y := (y2 >>> 32)) rfl rfl rfl ?_
  refine Plan.addU .u64 (X := ((((x_1 >>> 32) * (y2 &&& (4294967295#64))) + (((x_1 &&& (4294967295#64)) * (y2 &&& (4294967295#64))) >>> 32)) &&& (4294967295#64))) (Y := ((x_1 &&& (4294967295#64)) * (y2 >>> 32))) rfl rfl rfl ?_
  refine Plan.assign_int rfl rfl ?_
  refine Plan.nil ?_
  refine hK12 _ _ ?_; clear hK12
  refine W.seq_k fun K13 hK13 => ?_
  refine W.regionT [(0, true), (1, true), (2, true), (3, true), (4, true), (5, true), (6, true), (7, true), (8, true)] (by kernel_rfl) ?_
  refine Plan.move_int rfl rfl ?_
  refine Plan.move_int rfl rfl ?_
  refine Plan.mulU .u64 (X := (x_1 >>> 32)) (Y := (y2 >>> 32)) rfl rfl rfl ?_
  refine Plan.move_int rfl rfl ?_
  refine Plan.addU .u64 (X := ((x_1 >>> 32) * (y2 >>> 32))) (Y := ((((x_1 >>> 32) * (y2 &&& (4294967295#64))) + (((x_1 &&& (4294967295#64)) * (y2 &&& (4294967295#64))) >>> 32)) >>> 32)) rfl rfl rfl ?_
  refine Plan.move_int rfl rfl ?_
  refine Plan.shrU .u64 (X := (((((x_1 >>> 32) * (y2 &&& (4294967295#64))) + (((x_1 &&& (4294967295#64)) * (y2 &&& (4294967295#64))) >>> 32)) &&& (4294967295#64)) + ((x_1 &&& (4294967295#64)) * (y2 >>> 32)))) (c := 32) rfl rfl rfl ?_
  refine Plan.addU .u64 (X := (((x_1 >>> 32) * (y2 >>> 32)) + ((((x_1 >>> 32) * (y2 &&& (4294967295#64))) + (((x_1 &&& (4294967295#64)) * (y2 &&& (4294967295#64))) >>> 32)) >>> 32))) (Y := ((((((x_1 >>> 32) * (y2 &&& (4294967295#64))) + (((x_1 &&& (4294967295#64)) * (y2 &&& (4294967295#64))) >>> 32)) &&& (4294967295#64)) + ((x_1 &&& (4294967295#64)) * (y2 >>> 32))) >>> 32)) rfl rfl rfl ?_
  refine Plan.assign_int rfl rfl ?_
  refine Plan.nil ?_
  refine hK13 _ _ ?_; clear hK13
  refine W.seq_k fun K14 hK14 => ?_
  refine W.regionT [(0, true), (1, true), (2, true), (3, true)] (by kernel_rfl) ?_
  refine Plan.move_int rfl rfl ?_
  refine Plan.move_int rfl rfl ?_
  refine Plan.mulU .u64 (X := x_1) (Y := y2) rfl rfl rfl ?_
  refine Plan.assign_int rfl rfl ?_
  refine Plan.nil ?_
  refine hK14 _ _ ?_; clear hK14
  refine W.ret (finR_ret ?_)
  subst r
  refine RetOk.mk (.tmp_int rfl (.tmp_int rfl .nil)) ?_
  exact ⟨rfl, HST⟩


set_option maxRecDepth 8000 in
set_option maxHeartbeats 1000000 in
theorem bits_Mul_ok {B : Nat} {w0 w : World} {L : List Rg} {x_1 : BitVec 64} {y2 : BitVec 64} {r : ((BitVec 64) × (BitVec 64))} (hR : bits_Mul x_1 y2 r) (HST : St B w0 (L) w) :
    Calls Tryd.prog 54 #[VU .u64 x_1, VU .u64 y2] w fun e w' => e = .returned (.tuple #[VU .u64 r.1, VU .u64 r.2]) ∧ St B w0 (L) w' := by
  refine W.enter 30 Tryd.func54 rfl rfl rfl ?_
  unfold bits_Mul at hR
  refine W.seq_k fun K3 hK3 => ?_
  refine W.regionT [(0, true), (1, true)] (by kernel_rfl) ?_
  refine Plan.assign_int rfl rfl ?_
  refine Plan.assign_int rfl rfl ?_
  refine Plan.nil ?_
  refine hK3 _ _ ?_; clear hK3
  refine W.seq_k fun K4 hK4 => ?_
  refine W.condF rfl ?_
  refine W.skip ?_
  refine hK4 _ _ ?_; clear hK4
  refine W.seq_k fun K5 hK5 => ?_
  refine W.regionT [(0, true), (1, true), (2, false), (3, true), (4, true), (5, true), (6, true), (7, true)] (by kernel_rfl) ?_
  refine Plan.move_int rfl rfl ?_
  refine Plan.move_int rfl rfl ?_
  obtain ⟨x_7, x_8, hr6, hR⟩ := hR
  refine Plan.call (vs := [VU .u64 x_1, VU .u64 y2]) rfl FBits.call56 rfl (bits_Mul64_ok  hr6 HST) ?_
  rintro _ w9 ⟨rfl, h9⟩
  refine ⟨_, rfl, .inl ⟨PIn.keep PIn.nil h9, ?_⟩⟩
  refine Plan.move_tuple rfl rfl ?_
  refine Plan.extract_int rfl rfl rfl ?_
  refine Plan.extract_int rfl rfl rfl ?_
  refine Plan.assign_int rfl rfl ?_
  refine Plan.assign_int rfl rfl ?_
  refine Plan.nil ?_
  refine hK5 _ _ ?_; clear hK5
  refine W.seq_k fun K10 hK10 => ?_
  refine W.regionT [(0, true), (1, true), (2, true), (3, true)] (by kernel_rfl) ?_
  refine Plan.move_int rfl rfl ?_
  refine Plan.move_int rfl rfl ?_
  refine Plan.assign_int rfl rfl ?_
  refine Plan.assign_int rfl rfl ?_
  refine Plan.nil ?_
  refine hK10 _ _ ?_; clear hK10
  refine W.ret (finR_ret ?_)
  subst r
  refine RetOk.mk (.tmp_int rfl (.tmp_int rfl .nil)) ?_
  exact ⟨rfl, h9⟩


set_option maxRecDepth 8000 in
set_option maxHeartbeats 1000000 in
theorem bits_RotateLeft32_ok {B : Nat} {w0 w : World} {L : List Rg} {x_1 : BitVec 32} {k2 : Int} {r : (BitVec 32)} (hR : bits_RotateLeft32 x_1 k2 r) (HST : St B w0 (L) w) :
    Calls Tryd.prog 74 #[VU .u32 x_1, .int .i64 k2] w fun e w' => e = .returned (VU .u32 r) ∧ St B w0 (L) w' := by
  refine W.enter 17 Tryd.func74 rfl rfl rfl ?_
  unfold bits_RotateLeft32 at hR
  refine W.seq_k fun K3 hK3 => ?_
  refine W.regionT [(0, true)] (by kernel_rfl) ?_
  refine Plan.assign_int rfl rfl ?_
  refine Plan.nil ?_
  refine hK3 _ _ ?_; clear hK3
  refine W.seq_k fun K4 hK4 => ?_
  refine W.regionT [(0, true), (1, true), (2, true), (3, true)] (by kernel_rfl) ?_
  refine Plan.move_int rfl rfl ?_
  refine Plan.convIU .u64 (a := k2) FBits.u91 FBits.some3 rfl rfl ?_
  refine Plan.andU .u64 (X := (BitVec.ofInt 64 k2)) (Y := 31#64) rfl rfl rfl ?_
  refine Plan.assign_int rfl rfl ?_
  refine Plan.nil ?_
  refine hK4 _ _ ?_; clear hK4
  refine W.seq_k fun K5 hK5 => ?_
  refine W.regionT [(0, true), (1, true), (2, true), (3, true), (4, true), (5, true), (6, true), (7, true), (8, true)] (by kernel_rfl) ?_
  refine Plan.move_int rfl rfl ?_
  refine Plan.move_int rfl rfl ?_
  refine Plan.shlU .u32 (X := x_1) (c := ((BitVec.ofInt 64 k2) &&& (31#64)).toNat) rfl rfl rfl ?_
  refine Plan.move_int rfl rfl ?_
  refine Plan.move_int rfl rfl ?_
  refine Plan.subU .u64 (X := 32#64) (Y := ((BitVec.ofInt 64 k2) &&& (31#64))) rfl rfl rfl ?_
  refine Plan.shrU .u32 (X := x_1) (c := ((32#64) - ((BitVec.ofInt 64 k2) &&& (31#64))).toNat) rfl rfl rfl ?_
  refine Plan.orU .u32 (X := (x_1 <<< (((BitVec.ofInt 64 k2) &&& (31#64)).toNat))) (Y := (x_1 >>> (((32#64) - ((BitVec.ofInt 64 k2) &&& (31#64))).toNat))) rfl rfl rfl ?_
  refine Plan.assign_int rfl rfl ?_
  refine Plan.nil ?_
  refine hK5 _ _ ?_; clear hK5
  refine W.ret (finR_ret ?_)
  subst r
  refine RetOk.mk (.tmp_int rfl .nil) ?_
  exact ⟨rfl, HST⟩

end Go.Proofs.YtjclppnbbpnfnaaDoor
