/-
  WALKS of the package's functions, printed by this session's own program (auto.py).
-/
import Derived.Test.YtjblfkmmbpcpaaaDoorProg
import Derived.Test.YtjblfkmmbpcpaaaDoorEb
import Derived.Test.YtjblfkmmbpcpaaaDoorRBits
import Derived.Test.YtjblfkmmbpcpaaaDoorEls
namespace Go.Proofs.YtjblfkmmbpcpaaaDoor
set_option linter.unusedSimpArgs false
set_option linter.unusedVariables false
set_option linter.unusedSectionVars false
open Go Go.LW


set_option maxRecDepth 8000 in
set_option maxHeartbeats 1000000 in
theorem bits_Mul64_ok {B : Nat} {w0 w : World} {L : List Rg} {x_1 : BitVec 64} {y2 : BitVec 64} {r : ((BitVec 64) × (BitVec 64))} (hR : bits_Mul64 x_1 y2 r) (HST : St B w0 (L) w) :
    Calls Tryd.prog 58 #[VU .u64 x_1, VU .u64 y2] w fun e w' => e = .returned (.tuple #[VU .u64 r.1, VU .u64 r.2]) ∧ St B w0 (L) w' := by
  refine W.enter 51 Tryd.func58 rfl rfl rfl ?_
  unfold bits_Mul64 at hR
  refine W.seq_k fun K3 hK3 => ?_
  refine W.regionT [(0, true), (1, true)] (by kernel_rfl) ?_
  refine Plan.assign_int rfl rfl ?_
  refine Plan.assign_int rfl rfl ?_
  refine Plan.nil ?_
  refine hK3 _ _ ?_; clear hK3
  refine W.seq_k fun K4 hK4 => ?_
  refine W.regionT [(0, true), (1, true), (2, true)] (by kernel_rfl) ?_
  refine Plan.move_int rfl rfl ?_
  refine Plan.andU .u64 (X := x_1) (Y := 4294967295#64) rfl rfl rfl ?_
  refine Plan.assign_int rfl rfl ?_
  refine Plan.nil ?_
  refine hK4 _ _ ?_; clear hK4
  refine W.seq_k fun K5 hK5 => ?_
  refine W.regionT [(0, true), (1, true), (2, true)] (by kernel_rfl) ?_
  refine Plan.move_int rfl rfl ?_
  refine Plan.shrU .u64 (X := x_1) (c := 32) rfl rfl rfl ?_
  refine Plan.assign_int rfl rfl ?_
  refine Plan.nil ?_
  refine hK5 _ _ ?_; clear hK5
  refine W.seq_k fun K6 hK6 => ?_
  refine W.regionT [(0, true), (1, true), (2, true)] (by kernel_rfl) ?_
  refine Plan.move_int rfl rfl ?_
  refine Plan.andU .u64 (X := y2) (Y := 4294967295#64) rfl rfl rfl ?_
  refine Plan.assign_int rfl rfl ?_
  refine Plan.nil ?_
  refine hK6 _ _ ?_; clear hK6
  refine W.seq_k fun K7 hK7 => ?_
  refine W.regionT [(0, true), (1, true), (2, true)] (by kernel_rfl) ?_
  refine Plan.move_int rfl rfl ?_
  refine Plan.shrU .u64 (X := y2) (c := 32) rfl rfl rfl ?_
  refine Plan.assign_int rfl rfl ?_
  refine Plan.nil ?_
  refine hK7 _ _ ?_; clear hK7
  refine W.seq_k fun K8 hK8 => ?_
  refine W.regionT [(0, true), (1, true), (2, true), (3, true)] (by kernel_rfl) ?_
  refine Plan.move_int rfl rfl ?_
  refine Plan.move_int rfl rfl ?_
  refine Plan.mulU .u64 (X := (x_1 &&& (4294967295#64))) (Y := (y2 &&& (4294967295#64))) rfl rfl rfl ?_
  refine Plan.assign_int rfl rfl ?_
  refine Plan.nil ?_
  refine hK8 _ _ ?_; clear hK8
  refine W.seq_k fun K9 hK9 => ?_
  refine W.regionT [(0, true), (1, true), (2, true), (3, true), (4, true), (5, true), (6, true)] (by kernel_rfl) ?_
  refine Plan.move_int rfl rfl ?_
  refine Plan.move_int rfl rfl ?_
  refine Plan.mulU .u64 (X := (x_1 >>> 32)) (Y := (y2 &&& (4294967295#64))) rfl rfl rfl ?_
  refine Plan.move_int rfl rfl ?_
  refine Plan.shrU .u64 (X := ((x_1 &&& (4294967295#64)) * (y2 &&& (4294967295#64)))) (c := 32) rfl rfl rfl ?_
  refine Plan.addU .u64 (X := ((x_1 >>> 32) * (y2 &&& (4294967295#64)))) (Y := (((x_1 &&& (4294967295#64)) * (y2 &&& (4294967295#64))) >>> 32)) rfl rfl rfl ?_
  refine Plan.assign_int rfl rfl ?_
  refine Plan.nil ?_
  refine hK9 _ _ ?_; clear hK9
  refine W.seq_k fun K10 hK10 => ?_
  refine W.regionT [(0, true), (1, true), (2, true)] (by kernel_rfl) ?_
  refine Plan.move_int rfl rfl ?_
  refine Plan.andU .u64 (X := (((x_1 >>> 32) * (y2 &&& (4294967295#64))) + (((x_1 &&& (4294967295#64)) * (y2 &&& (4294967295#64))) >>> 32))) (Y := 4294967295#64) rfl rfl rfl ?_
  refine Plan.assign_int rfl rfl ?_
  refine Plan.nil ?_
  refine hK10 _ _ ?_; clear hK10
  refine W.seq_k fun K11 hK11 => ?_
  refine W.regionT [(0, true), (1, true), (2, true)] (by kernel_rfl) ?_
  refine Plan.move_int rfl rfl ?_
  refine Plan.shrU .u64 (X := (((x_1 >>> 32) * (y2 &&& (4294967295#64))) + (((x_1 &&& (4294967295#64)) * (y2 &&& (4294967295#64))) >>> 32))) (c := 32) rfl rfl rfl ?_
  refine Plan.assign_int rfl rfl ?_
  refine Plan.nil ?_
  refine hK11 _ _ ?_; clear hK11
  refine W.seq_k fun K12 hK12 => ?_
  refine W.regionT [(0, true), (1, true), (2, true), (3, true), (4, true), (5, true)] (by kernel_rfl) ?_
  refine Plan.move_int rfl rfl ?_
  refine Plan.move_int rfl rfl ?_
  refine Plan.move_int rfl rfl ?_
  refine Plan.mulU .u64 (X := (x_1 &&& (4294967295#64))) (Y := (y2 >>> 32)) rfl rfl rfl ?_
  refine Plan.addU .u64 (X := ((((x_1 >>> 32) * (y2 &&& (4294967295#64))) + (((x_1 &&& (4294967295#64)) * (y2 &&& (4294967295#64))) >>> 32)) &&& (4294967295#64))) (Y := ((x_1 &&& (4294967295#64)) * (y2 >>> 32))) rfl rfl rfl ?_
  refine Plan.assign_int rfl rfl ?_
  refine Plan.nil ?_
  refine hK12 _ _ ?_; clear hK12
  refine W.seq_k fun K13 hK13 => ?_
  refine W.regionT [(0, true), (1, true), (2, true), (3, true), (4, true), (5, true), (6, true), (7, true), (8, true)] (by kernel_rfl) ?_
  refine Plan.move_int rfl rfl ?_
  refine Plan.move_int rfl rfl ?_
  refine Plan.mulU .u64 (X := (x_1 >>> 32)) (Y := (y2 >>> 32)) rfl rfl rfl ?_
  refine Plan.move_int rfl rfl ?_
  refine Plan.addU .u64 (X := ((x_1 >>> 32) * (y2 >>> 32))) (Y := ((((x_1 >>> 32) * (y2 &&& (4294967295#64))) + (((x_1 &&& (4294967295#64)) * (y2 &&& (4294967295#64))) >>> 32)) >>> 32)) rfl rfl rfl ?_
  refine Plan.move_int rfl rfl ?_
  refine Plan.shrU .u64 (X := (((((x_1 >>> 32) * (y2 &&& (4294967295#64))) + (((x_1 &&& (4294967295#64)) * (y2 &&& (4294967295#64))) >>> 32)) &&& (4294967295#64)) + ((x_1 &&& (4294967295#64)) * (y2 >>> 32)))) (c := 32) rfl rfl rfl ?_
  refine Plan.addU .u64 (X := (((x_1 >>> 32) * (y2 >>> 32)) + ((((x_1 >>> 32) * (y2 &&& (4294967295#64))) + (((x_1 &&& (4294967295#64)) * (y2 &&& (4294967295#64))) >>> 32)) >>> 32))) (Y := ((((((x_1 >>> 32) * (y2 &&& (4294967295#64))) + (((x_1 &&& (4294967295#64)) * (y2 &&& (4294967295#64))) >>> 32)) &&& (4294967295#64)) + ((x_1 &&& (4294967295#64)) * (y2 >>> 32))) >>> 32)) rfl rfl rfl ?_
  refine Plan.assign_int rfl rfl ?_
  refine Plan.nil ?_
  refine hK13 _ _ ?_; clear hK13
  refine W.seq_k fun K14 hK14 => ?_
  refine W.regionT [(0, true), (1, true), (2, true), (3, true)] (by kernel_rfl) ?_
  refine Plan.move_int rfl rfl ?_
  refine Plan.move_int rfl rfl ?_
  refine Plan.mulU .u64 (X := x_1) (Y := y2) rfl rfl rfl ?_
  refine Plan.assign_int rfl rfl ?_
  refine Plan.nil ?_
  refine hK14 _ _ ?_; clear hK14
  refine W.ret (finR_ret ?_)
  subst r
  refine RetOk.mk (.tmp_int rfl (.tmp_int rfl .nil)) ?_
  exact ⟨rfl, HST⟩

end Go.Proofs.YtjblfkmmbpcpaaaDoor
