/-
  THE LAW 'FieldExact' OF THE GIVEN PROGRAM: FOR EVERY INPUT SHE RETURNS TRUE AND THE INPUT READS AS IT DID. CONDITIONS: the row's own cells (laid: the package-level variables that she lists begin as the text lays them; the card ties them).
-/
import Derived.Test.YtjblfkmmbpcpaaaDoorCards
import Derived.Test.YtjblfkmmbpcpaaaDoorTie
import Derived.WalkKit
import Derived.ProofKit
import Derived.OpenShut
import Derived.ShutString
import Derived.ChangeOld
import Derived.Below
import Derived.Deep.DeepHandedRow
import Derived.Lib.LaidTab
import Derived.Stop.LaidErr
import Derived.Test.YtjblfkmmbpcpaaaDoorEb
import Derived.Test.YtjblfkmmbpcpaaaDoorEls
import Derived.Test.YtjblfkmmbpcpaaaDoorWFieldExact
import Derived.Test.YtjblfkmmbpcpaaaDoorPFieldExact
namespace Go.Proofs.YtjblfkmmbpcpaaaDoor.fieldExact
open Go.ChangeShapes Go.WideShapes Go.ChangeAt Go.RowKit Go.LW
set_option linter.unusedSimpArgs false
set_option linter.unusedVariables false
set_option linter.unusedSectionVars false

theorem own : ownKnob Tryd.prog.godebug = none := by kernel_rfl
theorem laidOut : laidOutB Tryd.prog = true := by kernel_rfl
theorem g0 : Tryd.prog.globalNamed "lethe/field.twice" = some 0 := by kernel_rfl
theorem gt0 : (Tryd.prog.globals[0]?).map (·.type) = some 26 := by kernel_rfl
theorem gc0 : Tryd.prog.cellsOf 26 = 5 := by kernel_rfl
theorem ge0 : Tryd.prog.cellsOf 24 = 1 := by kernel_rfl
def zs0 : List Int := [4503599627370458, 4503599627370494, 4503599627370494, 4503599627370494, 4503599627370494]
theorem zf0 : (List.range 5).all (fun i => zs0.getD i 0 == ((twice5 i).toNat : Int)) = true := by decide +kernel
theorem table0 {W : World} (h : laidMetH Tryd.prog Rows.fieldExactRow.laid W) : Lib.TabIs Tryd.prog W "lethe/field.twice" .u64 zs0 :=
  Lib.tabIs_of_head g0 gt0 Tryd.underlying26 Tryd.underlying24 ge0 gc0 (show laidMet Tryd.prog _ W from h)
theorem lifts50 : D50.lifts := fun _ _ _ _ _ h => h
theorem opens50 (w : World) : Opens Tryd.prog w D50 (3 :: (3 :: (3 :: (3 :: (List.replicate 32 5 ++ (31 :: (3 :: ([] : List TypeId)))))))) (fun _ => True) := by
  intro cells h_0
  obtain ⟨x0, cs0, rfl, h_1⟩ := h_0.int Tryd.underlying3
  obtain ⟨x1, cs1, rfl, h_2⟩ := h_1.int Tryd.underlying3
  obtain ⟨x2, cs2, rfl, h_3⟩ := h_2.int Tryd.underlying3
  obtain ⟨x3, cs3, rfl, h_4⟩ := h_3.int Tryd.underlying3
  obtain ⟨x4, cs4, rfl, h_5⟩ := h_4.part (n := 32) .u8 Tryd.underlying5
  obtain ⟨x5, cs5, rfl, h_6⟩ := h_5.num .u32 Tryd.underlying31
  obtain ⟨x6, cs6, rfl, h_7⟩ := h_6.int Tryd.underlying3
  cases h_7
  refine ⟨[], (), (x0, x1, x2, x3, x4, x5, x6), ?_, trivial, ?_, trivial⟩
  · exact fun r hr => by cases hr
  · rfl
theorem leafs50 : leafs Tryd.prog 12 50 = some (3 :: (3 :: (3 :: (3 :: (List.replicate 32 5 ++ (31 :: (3 :: ([] : List TypeId)))))))) := by kernel_rfl
theorem lsz50 : Tryd.prog.cellsOf 50 = ((3 :: (3 :: (3 :: (3 :: (List.replicate 32 5 ++ (31 :: (3 :: ([] : List TypeId))))))))).length := by kernel_rfl
set_option maxRecDepth 100000 in
theorem contract (H : Type) (enc : TypeId × Value → H) (W : World) (base : Nat) (args : Array Value) (ds gs : List (DataW H)) (before : List MemPlace)
    (hval : ∀ (j : Nat) t v, Tryd.f5.params[j]? = some t → args[j]? = some v → Value.okWide Tryd.prog W .any base t v)
    (hW : DataW.Whole enc Tryd.prog Tryd.f5.params.toList Rows.fieldExactSpec.vars false W args.toList ds gs before) (hL : laidMetH Tryd.prog Rows.fieldExactRow.laid W)
    (hsz : (DataW.weightsEach Tryd.prog (Tryd.f5.params.toList ++ (OpenSpec.ofChange Rows.fieldExactSpec).bare.plain.varTypes Tryd.prog) (ds ++ gs)).all (· ≤ reachBytes) = true) :
    Calls Tryd.prog 5 args W fun e W' => ∃ v, e = .returned v ∧ Rows.fieldExactSpec.post enc Tryd.prog Tryd.f5 false true false false W args v W' := by
  have hW' := hW
  obtain ⟨p, q, hA0, hV, rfl, hfz, hnd⟩ := hW
  have hA : DataW.TrodAll enc Tryd.prog W 0 (fun _ => true) true Tryd.f5.params.toList args.toList ds p := hA0
  rw [Tryd.params5] at hA hval hsz
  obtain ⟨v0, vs0, d0, ds0, p0, q0, hargs0, rfl, rfl, h0, r0⟩ := trodAll_cons hA
  obtain ⟨rfl, rfl, rfl⟩ := trodAll_nil r0
  obtain rfl : args = #[v0] := by cases args; simp_all
  obtain ⟨rfl, rfl⟩ := trodVars_none hV
  have k0 := h0
  have lt0 : ∀ x ∈ p0, x.block < W.heap.size := by obtain ⟨m, hm⟩ := k0; exact DataW.trod_lt m _ _ _ hm
  obtain ⟨a0, len0, cap0, rfl⟩ := okWide_slice Tryd.underlying40 (hval 0 40 v0 rfl rfl)
  obtain ⟨pr0, of0, G0, hrow0⟩ : ∃ pr of G, LRows Tryd.prog W (3 :: (3 :: (3 :: (3 :: (List.replicate 32 5 ++ (31 :: (3 :: ([] : List TypeId)))))))) a0 len0 cap0 pr of G := by
    obtain ⟨fuel, hf⟩ := h0
    exact rows_open Tryd.underlying40 leafs50 lsz50 (by decide) hf (fun n hn => by have := List.all_eq_true.1 hsz n (DataW.weights_mem_each (j := 0) (t := 40) rfl rfl n hn); simpa using this)
  clear hA0
  have hst := St.init W.heap.size W (Nat.le_refl _)
  have hro : roL [] := roL.nil
  obtain ⟨hst, hro⟩ := hst.tab hro (F := twice5) (table0 hL) g0 5 (by decide +kernel) zf0
  obtain ⟨C0, X0, hst, hro, hV0, hQ0⟩ := hrow0.lv hst hro (opens50 W) lifts50 rfl
  have hR : lethelaw06_FieldExact X0 true := fieldExact_true X0
  refine (lethelaw06_FieldExact_ok (r := true) (iG0 := 0 + C0.length + 0) (by exact flget rfl C0) hV0 hR hst).mono fun e W' ⟨he, hs⟩ => ?_
  have bel := hs.below
  subst he
  exact ⟨_, rfl, _, _, _, [], _, [], hW', trodAll_mk1 (shut_bool Tryd.underlying4 _), (trodAll_cons_mk (Below.trod laidOut (by kernel_rfl) (of_decide_eq_true (by kernel_rfl)) k0 bel lt0) trodAll_mk0), rfl, bel.frame _, fun h => by cases h⟩
/-- A WORLD FOR THE WITNESS: the settled one, the tables as their initialisers lay them. -/
noncomputable def laidWorld (os : Os) : World := { World.holding Tryd.prog os ⟨#[], #[], []⟩ with heap := ((World.holding Tryd.prog os ⟨#[], #[], []⟩).heap.modify 0 fun
      | .cells _ t frozen => .cells #[.int .u64 4503599627370458, .int .u64 4503599627370494, .int .u64 4503599627370494, .int .u64 4503599627370494, .int .u64 4503599627370494] t frozen
      | o => o) }
theorem laid_met (os : Os) : laidMet Tryd.prog Rows.fieldExactRow.laid ((laidWorld os).forCall (fun _ _ => 0) ⟨#[], #[.slice none 0 0], []⟩).memory :=
  laidMet_of_run' 8 (by kernel_rfl) (by kernel_rfl)
theorem reads (os : Os) {H : Type} (enc : TypeId × Value → H) : ∃ places, DataW.whole enc Tryd.prog ((laidWorld os).forCall (fun _ _ => 0) ⟨#[], #[.slice none 0 0], []⟩).memory Tryd.f5.params.toList Rows.fieldExactSpec.vars false (#[.slice none 0 0] : Array Value).toList 8 = some ([.nil], [], places) :=
  ⟨[], by kernel_rfl⟩
set_option maxRecDepth 100000 in
theorem lifted (os : Os) (started : os.Started) (H : Type) (enc : TypeId × Value → H) (F : Stop.Interp) :
    ReturnsInHanded {} Tryd.checked os 5 .any ((OpenSpec.ofChange Rows.fieldExactSpec).preRow enc Tryd.prog Tryd.f5 Rows.fieldExactRow.domain false Rows.fieldExactRow.laid) (((OpenSpec.ofChange Rows.fieldExactSpec).at F).post enc Tryd.prog Tryd.f5 false true false false) := by
  obtain ⟨places, hx⟩ := reads os enc
  refine returnsInHanded_of_row (C := Tryd.checked) (s := (OpenSpec.ofChange Rows.fieldExactSpec)) own started (by kernel_rfl) Tryd.func5
    (witness_row_at (enc := enc) (C := Tryd.checked) false (laidWorld os) #[.slice none 0 0] rfl (by kernel_rfl) (by kernel_rfl) (by kernel_rfl)
      (OpenSpec.preRow_of_cond 8 hx (by kernel_rfl) (fun k hk => by cases hk) (by kernel_rfl) (laid_met os))) ?_
  intro W base args ds gs before hval hW _ _ hsz hL _ _
  exact contract H enc W base args ds gs before hval hW hL hsz
theorem said : Rows.FieldExactSaid :=
  OpenClaim.holds_of_cond 5 Tryd.f5 rfl rfl rfl rfl rfl rfl rfl ⟨rfl, rfl, rfl, rfl, rfl⟩ rfl rfl rfl rfl rfl (by kernel_rfl) Tryd.func5 (by kernel_rfl)
    (of_decide_eq_true (by kernel_rfl)) (by unfold Func.isWrapper; first | (rw [if_pos (by decide +kernel)]; kernel_rfl) | (rw [if_neg (by decide +kernel)]; exact ⟨rfl, rfl⟩))
    (fun os started H enc _ F => by rw [OpenClaim.pre_eq_preRow]; exact lifted os started H enc F)
theorem plain (f : FuncId) (fn : Func) (hf : Tryd.pinned.checked.prog.funcNamed "lethe/lethelaw06.FieldExact" = some f) (hfn : Tryd.pinned.checked.prog.funcs[f]? = some fn) :
    false = Tryd.pinned.checked.prog.looks [] ∧ ∀ (j : Nat) t, fn.params[j]? = some t → Tryd.pinned.checked.prog.wantsStandIn t = false := by
  obtain rfl : f = 5 := Option.some.inj ((show Tryd.prog.funcNamed "lethe/lethelaw06.FieldExact" = some 5 by kernel_rfl).symm.trans hf) |>.symm
  obtain rfl : fn = Tryd.f5 := (Option.some.inj (Tryd.func5.symm.trans hfn)).symm
  refine ⟨by kernel_rfl, fun j t ht => ?_⟩
  rw [Tryd.params5] at ht
  obtain rfl : t = 40 := by simpa using Array.mem_of_getElem? ht
  exact (show Tryd.prog.wantsStandIn 40 = false by kernel_rfl)
/-- THE CARD. -/
theorem card : Rows.FieldExactCardSaid :=
  Claim7.holds_tied_plain_at .later [] _ _ _ _ said (fun _ h => by cases h) (by kernel_rfl) (fun _ h => by cases h) fieldExact_row_tie rfl ⟨rfl, rfl⟩ (by kernel_rfl) rfl plain (by kernel_rfl)
end Go.Proofs.YtjblfkmmbpcpaaaDoor.fieldExact
namespace Go.Proofs.YtjblfkmmbpcpaaaDoor
theorem fieldExact_holds : Rows.FieldExactCardSaid := fieldExact.card
end Go.Proofs.YtjblfkmmbpcpaaaDoor
