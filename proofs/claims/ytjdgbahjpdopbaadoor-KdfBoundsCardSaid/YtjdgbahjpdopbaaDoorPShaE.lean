/-
  PLAIN (own work): a digest from its reckoned state.
-/
import Derived.Test.YtjdgbahjpdopbaaDoorPSha
import Derived.Test.YtjdgbahjpdopbaaDoorShaG
namespace Go.Proofs.YtjdgbahjpdopbaaDoor
set_option linter.unusedSimpArgs false
set_option linter.unusedVariables false
set_option linter.unusedSectionVars false
open Go Go.LW

theorem shaL_eval {X P : List Byte} {k : Nat} {l : List Nat} {D : List Byte} (hp : padB X = P) (hk : P.length / 64 = k) (h : (hstF (lit P) k).list = l) (hD : (List.range 32).all (fun q => D.getD q 0 == BitVec.ofNat 8 (l.getD (q / 4) 0 >>> (24 - 8 * (q % 4)))) = true) (hl : D.length = 32) : dl 32 (shaL X) = D := by
  have h1 := dig_of ((congrArg N8.list (hstF_eq (lit P) k)).trans h) hD
  refine lext (by rw [dl_length, hl]) fun q hq => ?_
  rw [dl_length] at hq
  rw [lit_dl _ hq, ← h1 q hq]
  unfold shaL
  rw [hp, hk, dgb_at _ 8 q (by omega)]
theorem eqB_eval {X D : List Byte} (h : dl 32 (shaL X) = D) : eqB 32 (shaL X) (lit D) = true := eqB_iff.2 fun q hq => by rw [← lit_dl (shaL X) hq, h]
end Go.Proofs.YtjdgbahjpdopbaaDoor
