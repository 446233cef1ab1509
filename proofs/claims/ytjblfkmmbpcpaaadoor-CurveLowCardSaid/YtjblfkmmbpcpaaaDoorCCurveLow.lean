/-
  THE LAW 'CurveLow' OF THE GIVEN PROGRAM: FOR EVERY INPUT SHE RETURNS TRUE AND THE INPUT READS AS IT DID. CONDITIONS: the row's own cells (laid: the package-level variables that she lists begin as the text lays them; the card ties them).
-/
import Derived.Test.YtjblfkmmbpcpaaaDoorCards
import Derived.Test.YtjblfkmmbpcpaaaDoorTie
import Derived.WalkKit
import Derived.ProofKit
import Derived.OpenShut
import Derived.ShutString
import Derived.ChangeOld
import Derived.Below
import Derived.Deep.DeepHandedRow
import Derived.Lib.LaidTab
import Derived.Stop.LaidErr
import Derived.Test.YtjblfkmmbpcpaaaDoorEb
import Derived.Test.YtjblfkmmbpcpaaaDoorWCurveLow
import Derived.Test.YtjblfkmmbpcpaaaDoorPCurveLow
namespace Go.Proofs.YtjblfkmmbpcpaaaDoor.curveLow
open Go.ChangeShapes Go.WideShapes Go.ChangeAt Go.RowKit Go.LW
set_option linter.unusedSimpArgs false
set_option linter.unusedVariables false
set_option linter.unusedSectionVars false

theorem own : ownKnob Tryd.prog.godebug = none := by kernel_rfl
theorem laidOut : laidOutB Tryd.prog = true := by kernel_rfl
theorem g0 : Tryd.prog.globalNamed "lethe/field.twice" = some 0 := by kernel_rfl
theorem gt0 : (Tryd.prog.globals[0]?).map (·.type) = some 26 := by kernel_rfl
theorem gc0 : Tryd.prog.cellsOf 26 = 5 := by kernel_rfl
theorem ge0 : Tryd.prog.cellsOf 24 = 1 := by kernel_rfl
def zs0 : List Int := [4503599627370458, 4503599627370494, 4503599627370494, 4503599627370494, 4503599627370494]
theorem zf0 : (List.range 5).all (fun i => zs0.getD i 0 == ((twice5 i).toNat : Int)) = true := by decide +kernel
theorem table0 {W : World} (h : laidMetH Tryd.prog Rows.curveLowRow.laid W) : Lib.TabIs Tryd.prog W "lethe/field.twice" .u64 zs0 :=
  Lib.tabIs_of_head g0 gt0 Tryd.underlying26 Tryd.underlying24 ge0 gc0 (show laidMet Tryd.prog _ W from h)
theorem ts58 : Tryd.prog.cellTypes Tryd.prog.depth 58 = some (List.replicate 32 5 ++ (List.replicate 32 5 ++ (3 :: (4 :: ([] : List TypeId))))) := by kernel_rfl
theorem co58 : Tryd.prog.cellsOf 58 = ((List.replicate 32 5 ++ (List.replicate 32 5 ++ (3 :: (4 :: ([] : List TypeId)))))).length := by kernel_rfl
set_option maxRecDepth 100000 in
theorem contract (H : Type) (enc : TypeId × Value → H) (W : World) (base : Nat) (args : Array Value) (ds gs : List (DataW H)) (before : List MemPlace)
    (hval : ∀ (j : Nat) t v, Tryd.f9.params[j]? = some t → args[j]? = some v → Value.okWide Tryd.prog W .any base t v)
    (hW : DataW.Whole enc Tryd.prog Tryd.f9.params.toList Rows.curveLowSpec.vars false W args.toList ds gs before) (hL : laidMetH Tryd.prog Rows.curveLowRow.laid W) :
    Calls Tryd.prog 9 args W fun e W' => ∃ v, e = .returned v ∧ Rows.curveLowSpec.post enc Tryd.prog Tryd.f9 false true false false W args v W' := by
  have hW' := hW
  obtain ⟨p, q, hA0, hV, rfl, hfz, hnd⟩ := hW
  have hA : DataW.TrodAll enc Tryd.prog W 0 (fun _ => true) true Tryd.f9.params.toList args.toList ds p := hA0
  rw [Tryd.params9] at hA hval
  obtain ⟨v0, vs0, d0, ds0, p0, q0, hargs0, rfl, rfl, h0, r0⟩ := trodAll_cons hA
  obtain ⟨rfl, rfl, rfl⟩ := trodAll_nil r0
  obtain rfl : args = #[v0] := by cases args; simp_all
  obtain ⟨rfl, rfl⟩ := trodVars_none hV
  have k0 := h0
  have lt0 : ∀ x ∈ p0, x.block < W.heap.size := by obtain ⟨m, hm⟩ := k0; exact DataW.trod_lt m _ _ _ hm
  obtain ⟨cs0, ag0, ck0⟩ := arg_str Tryd.underlying58 ts58 co58 (hval 0 58 v0 rfl rfl)
  obtain ⟨X0_0, cs0, ag0, ck0⟩ := ag0.part (n := 32) .u8 Tryd.underlying5 ck0
  obtain ⟨X0_1, cs0, ag0, ck0⟩ := ag0.part (n := 32) .u8 Tryd.underlying5 ck0
  obtain ⟨X0_2, cs0, hX0_2, ag0, ck0⟩ := ag0.int Tryd.underlying3 ck0
  obtain ⟨X0_3, cs0, ag0, ck0⟩ := ag0.bool Tryd.underlying4 ck0
  replace ag0 := ag0.fin ck0
  simp only [List.nil_append, List.cons_append] at ag0
  subst ag0
  clear hA0
  have hst := St.init W.heap.size W (Nat.le_refl _)
  have hro : roL [] := roL.nil
  obtain ⟨hst, hro⟩ := hst.tab hro (F := twice5) (table0 hL) g0 5 (by decide +kernel) zf0
  have hR : lethelaw07_CurveLow X0_0 X0_1 X0_2 X0_3 true := curveLow_true X0_0 X0_1 X0_2 X0_3
  refine (lethelaw07_CurveLow_ok (r := true) (iG0 := 0) rfl hR hst).mono fun e W' ⟨he, hs⟩ => ?_
  have bel := hs.below
  subst he
  exact ⟨_, rfl, _, _, _, [], _, [], hW', trodAll_mk1 (shut_bool Tryd.underlying4 _), (trodAll_cons_mk (Below.trod laidOut (by kernel_rfl) (of_decide_eq_true (by kernel_rfl)) k0 bel lt0) trodAll_mk0), rfl, bel.frame _, fun h => by cases h⟩
@[reducible] def wA : Array Value := #[Value.agg (Array.replicate 32 (Value.int .u8 0) ++ Array.replicate 32 (Value.int .u8 0) ++ Array.replicate 1 (Value.int .i64 0) ++ Array.replicate 1 (Value.bool false))]
/-- A WORLD FOR THE WITNESS: the settled one, the tables as their initialisers lay them. -/
noncomputable def laidWorld (os : Os) : World := { World.holding Tryd.prog os ⟨#[], #[], []⟩ with heap := ((World.holding Tryd.prog os ⟨#[], #[], []⟩).heap.modify 0 fun
      | .cells _ t frozen => .cells #[.int .u64 4503599627370458, .int .u64 4503599627370494, .int .u64 4503599627370494, .int .u64 4503599627370494, .int .u64 4503599627370494] t frozen
      | o => o) }
theorem laid_met (os : Os) : laidMet Tryd.prog Rows.curveLowRow.laid ((laidWorld os).forCall (fun _ _ => 0) ⟨#[], wA, []⟩).memory :=
  laidMet_of_run' 8 (by kernel_rfl) (by kernel_rfl)
theorem reads (os : Os) {H : Type} (enc : TypeId × Value → H) : ∃ places, DataW.whole enc Tryd.prog ((laidWorld os).forCall (fun _ _ => 0) ⟨#[], wA, []⟩).memory Tryd.f9.params.toList Rows.curveLowSpec.vars false (wA : Array Value).toList 8 = some ([.agg [.agg [.lit (.int .u8 0), .lit (.int .u8 0), .lit (.int .u8 0), .lit (.int .u8 0), .lit (.int .u8 0), .lit (.int .u8 0), .lit (.int .u8 0), .lit (.int .u8 0), .lit (.int .u8 0), .lit (.int .u8 0), .lit (.int .u8 0), .lit (.int .u8 0), .lit (.int .u8 0), .lit (.int .u8 0), .lit (.int .u8 0), .lit (.int .u8 0), .lit (.int .u8 0), .lit (.int .u8 0), .lit (.int .u8 0), .lit (.int .u8 0), .lit (.int .u8 0), .lit (.int .u8 0), .lit (.int .u8 0), .lit (.int .u8 0), .lit (.int .u8 0), .lit (.int .u8 0), .lit (.int .u8 0), .lit (.int .u8 0), .lit (.int .u8 0), .lit (.int .u8 0), .lit (.int .u8 0), .lit (.int .u8 0)], .agg [.lit (.int .u8 0), .lit (.int .u8 0), .lit (.int .u8 0), .lit (.int .u8 0), .lit (.int .u8 0), .lit (.int .u8 0), .lit (.int .u8 0), .lit (.int .u8 0), .lit (.int .u8 0), .lit (.int .u8 0), .lit (.int .u8 0), .lit (.int .u8 0), .lit (.int .u8 0), .lit (.int .u8 0), .lit (.int .u8 0), .lit (.int .u8 0), .lit (.int .u8 0), .lit (.int .u8 0), .lit (.int .u8 0), .lit (.int .u8 0), .lit (.int .u8 0), .lit (.int .u8 0), .lit (.int .u8 0), .lit (.int .u8 0), .lit (.int .u8 0), .lit (.int .u8 0), .lit (.int .u8 0), .lit (.int .u8 0), .lit (.int .u8 0), .lit (.int .u8 0), .lit (.int .u8 0), .lit (.int .u8 0)], .lit (.int .i64 0), .lit (.bool false)]], [], places) :=
  ⟨[], by kernel_rfl⟩
set_option maxRecDepth 100000 in
theorem lifted (os : Os) (started : os.Started) (H : Type) (enc : TypeId × Value → H) (F : Stop.Interp) :
    ReturnsInHanded {} Tryd.checked os 9 .any ((OpenSpec.ofChange Rows.curveLowSpec).preRow enc Tryd.prog Tryd.f9 Rows.curveLowRow.domain false Rows.curveLowRow.laid) (((OpenSpec.ofChange Rows.curveLowSpec).at F).post enc Tryd.prog Tryd.f9 false true false false) := by
  obtain ⟨places, hx⟩ := reads os enc
  refine returnsInHanded_of_row (C := Tryd.checked) (s := (OpenSpec.ofChange Rows.curveLowSpec)) own started (by kernel_rfl) Tryd.func9
    (witness_row_at (enc := enc) (C := Tryd.checked) false (laidWorld os) wA rfl (by kernel_rfl) (by kernel_rfl) (by kernel_rfl)
      (OpenSpec.preRow_of_cond 8 hx (by kernel_rfl) (fun k hk => by cases hk) (by kernel_rfl) (laid_met os))) ?_
  intro W base args ds gs before hval hW _ _ _ hL _ _
  exact contract H enc W base args ds gs before hval hW hL
theorem said : Rows.CurveLowSaid :=
  OpenClaim.holds_of_cond 9 Tryd.f9 rfl rfl rfl rfl rfl rfl rfl ⟨rfl, rfl, rfl, rfl, rfl⟩ rfl rfl rfl rfl rfl (by kernel_rfl) Tryd.func9 (by kernel_rfl)
    (of_decide_eq_true (by kernel_rfl)) (by unfold Func.isWrapper; first | (rw [if_pos (by decide +kernel)]; kernel_rfl) | (rw [if_neg (by decide +kernel)]; exact ⟨rfl, rfl⟩))
    (fun os started H enc _ F => by rw [OpenClaim.pre_eq_preRow]; exact lifted os started H enc F)
theorem plain (f : FuncId) (fn : Func) (hf : Tryd.pinned.checked.prog.funcNamed "lethe/lethelaw07.CurveLow" = some f) (hfn : Tryd.pinned.checked.prog.funcs[f]? = some fn) :
    false = Tryd.pinned.checked.prog.looks [] ∧ ∀ (j : Nat) t, fn.params[j]? = some t → Tryd.pinned.checked.prog.wantsStandIn t = false := by
  obtain rfl : f = 9 := Option.some.inj ((show Tryd.prog.funcNamed "lethe/lethelaw07.CurveLow" = some 9 by kernel_rfl).symm.trans hf) |>.symm
  obtain rfl : fn = Tryd.f9 := (Option.some.inj (Tryd.func9.symm.trans hfn)).symm
  refine ⟨by kernel_rfl, fun j t ht => ?_⟩
  rw [Tryd.params9] at ht
  obtain rfl : t = 58 := by simpa using Array.mem_of_getElem? ht
  exact (show Tryd.prog.wantsStandIn 58 = false by kernel_rfl)
/-- THE CARD. -/
theorem card : Rows.CurveLowCardSaid :=
  Claim7.holds_tied_plain_at .later [] _ _ _ _ said (fun _ h => by cases h) (by kernel_rfl) (fun _ h => by cases h) curveLow_row_tie rfl ⟨rfl, rfl⟩ (by kernel_rfl) rfl plain (by kernel_rfl)
end Go.Proofs.YtjblfkmmbpcpaaaDoor.curveLow
namespace Go.Proofs.YtjblfkmmbpcpaaaDoor
theorem curveLow_holds : Rows.CurveLowCardSaid := curveLow.card
end Go.Proofs.YtjblfkmmbpcpaaaDoor
