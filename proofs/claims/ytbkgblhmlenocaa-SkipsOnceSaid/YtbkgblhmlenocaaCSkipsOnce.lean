/-
  THE LAW 'SkipsOnce' OF THE GIVEN PROGRAM: FOR EVERY INPUT SHE RETURNS TRUE AND THE INPUT READS AS IT DID. CONDITIONS: the row's own cells.
-/
import Derived.Test.YtbkgblhmlenocaaRows
import Derived.WalkKit
import Derived.ProofKit
import Derived.OpenShut
import Derived.ShutString
import Derived.ChangeOld
import Derived.Below
import Derived.Deep.DeepHandedRow
import Derived.Lib.LaidTab
import Derived.Stop.LaidErr
import Derived.SizedLaws
import Derived.Test.YtbkgblhmlenocaaEd
import Derived.Test.YtbkgblhmlenocaaEls
import Derived.Test.YtbkgblhmlenocaaWSkipsOnce
import Derived.Test.YtbkgblhmlenocaaPSkipsOnce
namespace Go.Proofs.Ytbkgblhmlenocaa.skipsOnce
open Go.ChangeShapes Go.WideShapes Go.ChangeAt Go.RowKit Go.LW
set_option linter.unusedSimpArgs false
set_option linter.unusedVariables false
set_option linter.unusedSectionVars false

theorem own : ownKnob Try.prog.godebug = none := by kernel_rfl
theorem laidOut : laidOutB Try.prog = true := by kernel_rfl
theorem lifts71 : D71.lifts := fun _ _ _ _ _ h => h
theorem opens71 (w : World) : Opens Try.prog w reachBytes D71 (List.replicate 32 5 ++ ([] : List TypeId)) (fun _ => True) := by
  intro cells h_0
  obtain ⟨x0, cs0, rfl, h_1⟩ := h_0.part (n := 32) .u8 Try.underlying5
  cases h_1
  refine ⟨[], (), x0, ?_, trivial, ?_, trivial⟩
  · exact fun r hr => by cases hr
  · rfl
theorem leafs71 : leafs Try.prog 12 71 = some (List.replicate 32 5 ++ ([] : List TypeId)) := by kernel_rfl
theorem lsz71 : Try.prog.cellsOf 71 = ((List.replicate 32 5 ++ ([] : List TypeId))).length := by kernel_rfl
theorem lifts3 : D3.lifts := fun _ _ _ _ _ h => h
theorem opens3 (w : World) : Opens Try.prog w reachBytes D3 (3 :: ([] : List TypeId)) (fun x : Int => IntKind.i64.has x) := by
  intro cells h_0
  obtain ⟨x0, cs0, rfl, hh0, h_1⟩ := h_0.intH Try.underlying3
  cases h_1
  refine ⟨[], (), x0, ?_, trivial, ?_, hh0⟩
  · exact fun r hr => by cases hr
  · rfl
theorem leafs3 : leafs Try.prog 12 3 = some (3 :: ([] : List TypeId)) := by kernel_rfl
theorem lsz3 : Try.prog.cellsOf 3 = ((3 :: ([] : List TypeId))).length := by kernel_rfl
set_option maxRecDepth 100000 in
theorem contract (H : Type) (enc : TypeId × Value → H) (W : World) (base : Nat) (args : Array Value) (ds gs : List (DataW H)) (before : List MemPlace)
    (hval : ∀ (j : Nat) t v, Try.f8.params[j]? = some t → args[j]? = some v → Value.okWide Try.prog W .any base t v)
    (hW : DataW.Whole enc Try.prog Try.f8.params.toList Rows.skipsOnceSpec.vars false W args.toList ds gs before)
    (hsz : (DataW.weightsEach Try.prog (Try.f8.params.toList ++ Rows.skipsOnceSpec.plain.varTypes Try.prog) (ds ++ gs)).all (· ≤ reachBytes) = true) :
    Calls Try.prog 8 args W fun e W' => ∃ v, e = .returned v ∧ Rows.skipsOnceSpec.post enc Try.prog Try.f8 false true false false W args v W' := by
  have hW' := hW
  obtain ⟨p, q, hA0, hV, rfl, hfz, hnd⟩ := hW
  have hA : DataW.TrodAll enc Try.prog W 0 (fun _ => true) true Try.f8.params.toList args.toList ds p := hA0
  rw [Try.params8] at hA hval hsz
  obtain ⟨v0, vs0, d0, ds0, p0, q0, hargs0, rfl, rfl, h0, r0⟩ := trodAll_cons hA
  obtain ⟨v1, vs1, d1, ds1, p1, q1, hargs1, rfl, rfl, h1, r1⟩ := trodAll_cons r0
  obtain ⟨rfl, rfl, rfl⟩ := trodAll_nil r1
  obtain rfl : args = #[v0, v1] := by cases args; simp_all
  obtain ⟨rfl, rfl⟩ := trodVars_none hV
  have k0 := h0
  have lt0 : ∀ x ∈ p0, x.block < W.heap.size := by obtain ⟨m, hm⟩ := k0; exact DataW.trod_lt m _ _ _ hm
  obtain ⟨a0, len0, cap0, rfl⟩ := okWide_slice Try.underlying66 (hval 0 66 v0 rfl rfl)
  obtain ⟨pr0, of0, G0, hrow0⟩ : ∃ pr of G, LRows Try.prog W reachBytes (List.replicate 32 5 ++ ([] : List TypeId)) a0 len0 cap0 pr of G := by
    obtain ⟨fuel, hf⟩ := h0
    exact rows_open reachK Try.underlying66 leafs71 lsz71 (by decide) hf (fun n hn => by have := List.all_eq_true.1 hsz n (DataW.weights_mem_each (j := 0) (t := 66) rfl rfl n hn); simpa using this)
  have k1 := h1
  have lt1 : ∀ x ∈ p1, x.block < W.heap.size := by obtain ⟨m, hm⟩ := k1; exact DataW.trod_lt m _ _ _ hm
  obtain ⟨a1, len1, cap1, rfl⟩ := okWide_slice Try.underlying43 (hval 1 43 v1 rfl rfl)
  obtain ⟨pr1, of1, G1, hrow1⟩ : ∃ pr of G, LRows Try.prog W reachBytes (3 :: ([] : List TypeId)) a1 len1 cap1 pr of G := by
    obtain ⟨fuel, hf⟩ := h1
    exact rows_open reachK Try.underlying43 leafs3 lsz3 (by decide) hf (fun n hn => by have := List.all_eq_true.1 hsz n (DataW.weights_mem_each (j := 1) (t := 43) rfl rfl n hn); simpa using this)
  clear hA0
  have hst := St.init W.heap.size W (Nat.le_refl _)
  have hro : roL [] := roL.nil
  obtain ⟨C0, X0, hst, hro, hV0, hQ0⟩ := hrow0.lv hst hro (opens71 W) lifts71 rfl
  obtain ⟨C1, X1, hst, hro, hV1, hQ1⟩ := hrow1.lv hst hro (opens3 W) lifts3 rfl
  replace hV0 := hV0.app C1
  have hR : lethelaw15_SkipsOnce X0 X1 true := skipsOnce_true X0 X1 (fun x hx => by obtain ⟨j, hj⟩ := List.mem_iff_getElem?.1 hx; exact hQ1 j x hj)
  refine (lethelaw15_SkipsOnce_ok (r := true) hV0 hV1 hR hst).mono fun e W' ⟨he, hs⟩ => ?_
  have bel := hs.below.toBelow
  subst he
  exact ⟨_, rfl, _, _, _, [], _, [], hW', trodAll_mk1 (shut_bool Try.underlying4 _), (trodAll_cons_mk (Below.trod laidOut (by kernel_rfl) (of_decide_eq_true (by kernel_rfl)) k0 bel lt0) (trodAll_cons_mk (Below.trod laidOut (by kernel_rfl) (of_decide_eq_true (by kernel_rfl)) k1 bel lt1) trodAll_mk0)), rfl, bel.frame _, fun h => by cases h⟩
set_option maxRecDepth 100000 in
theorem lifted (os : Os) (started : os.Started) (H : Type) (enc : TypeId × Value → H) :
    ReturnsInHanded {} Try.checked os 8 .any (Rows.skipsOnceSpec.pre6 enc Try.prog Try.f8 Rows.skipsOnceRow.domain false) (Rows.skipsOnceSpec.post enc Try.prog Try.f8 false true false false) := by
  refine returnsInHanded_of_change_sized (C := Try.checked) own started (by kernel_rfl) Try.func8
    (ChangeSpec.witness6 (enc := enc) (C := Try.checked) false ⟨#[], #[.slice none 0 0, .slice none 0 0], []⟩ 8 (by kernel_rfl) (by kernel_rfl) (by kernel_rfl) (by kernel_rfl)) ?_
  intro W base args ds gs before hval0 hW hcnd hsz _
  exact contract H enc W base args ds gs before hval0 hW hsz
theorem over : Rows.skipsOnceRow.holds Try.pinned (OpenSpec.ofChange Rows.skipsOnceSpec) :=
  OpenClaim.holds_of_wide 8 Try.f8 rfl rfl rfl rfl rfl rfl rfl ⟨rfl, rfl, rfl, rfl, rfl⟩ rfl rfl rfl rfl rfl (by kernel_rfl) Try.func8 (by kernel_rfl)
    (of_decide_eq_true (by kernel_rfl)) (by unfold Func.isWrapper; first | (rw [if_pos (by decide +kernel)]; kernel_rfl) | (rw [if_neg (by decide +kernel)]; exact ⟨rfl, rfl⟩))
    (fun os started H enc _ => lifted os started H enc)
end Go.Proofs.Ytbkgblhmlenocaa.skipsOnce
namespace Go.Proofs.Ytbkgblhmlenocaa
theorem skipsOnce_holds : Rows.SkipsOnceSaid := skipsOnce.over
end Go.Proofs.Ytbkgblhmlenocaa
