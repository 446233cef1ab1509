/-
  WALKS of the package's functions, printed by this session's own program (auto.py).
-/
import Derived.Test.YtbkgblhmlenocaaProg
import Derived.Test.YtbkgblhmlenocaaEb
import Derived.Test.YtbkgblhmlenocaaRBytes
import Derived.Test.YtbkgblhmlenocaaEls
namespace Go.Proofs.Ytbkgblhmlenocaa
set_option linter.unusedSimpArgs false
set_option linter.unusedVariables false
set_option linter.unusedSectionVars false
open Go Go.LW


set_option maxRecDepth 8000 in
set_option maxHeartbeats 1000000 in
theorem bytes_Compare_ok {B : Nat} {w0 w : World} {L : List Rg} {a1 : List Byte} {aa1 : Option Addr} {na1 ca1 ia1 : Nat} (ha1 : Bx L ia1 aa1 na1 ca1 a1) {b2 : List Byte} {ab2 : Option Addr} {nb2 cb2 ib2 : Nat} (hb2 : Bx L ib2 ab2 nb2 cb2 b2) {r : Int} (hR : bytes_Compare a1 b2 r) (HST : St B w0 (L) w) :
    Calls Try.prog 58 #[.slice aa1 na1 ca1, .slice ab2 nb2 cb2] w fun e w' => e = .returned (.int .i64 r) ∧ St B w0 (L) w' := by
  refine W.enter 8 Try.func58 rfl rfl rfl ?_
  unfold bytes_Compare at hR
  have ea1 := ha1.hl; subst ea1
  have eb2 := hb2.hl; subst eb2
  refine W.seq_k fun K3 hK3 => ?_
  refine W.regionT [(0, true)] (by kernel_rfl) ?_
  refine Plan.assign_int rfl rfl ?_
  refine Plan.nil ?_
  refine hK3 _ _ ?_; clear hK3
  refine W.seq_k fun K4 hK4 => ?_
  refine W.regionT [(0, true), (1, true), (2, false), (3, true)] (by kernel_rfl) ?_
  refine Plan.move_slice rfl rfl ?_
  refine Plan.move_slice rfl rfl ?_
  refine Plan.cmpB (X := a1) (Y := b2) HST Try.func84 rfl rfl rfl rfl ha1 hb2 rfl rfl rfl ?_
  refine Plan.assign_int rfl rfl ?_
  refine Plan.nil ?_
  refine hK4 _ _ ?_; clear hK4
  refine W.ret (finR_ret ?_)
  subst r
  refine RetOk.mk (.tmp_int rfl .nil) ?_
  exact ⟨rfl, HST⟩

end Go.Proofs.Ytbkgblhmlenocaa
