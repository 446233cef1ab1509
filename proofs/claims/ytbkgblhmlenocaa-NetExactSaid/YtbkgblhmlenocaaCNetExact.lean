/-
  THE LAW 'NetExact' OF THE GIVEN PROGRAM: FOR EVERY INPUT SHE RETURNS TRUE AND THE INPUT READS AS IT DID. CONDITIONS: the row's own cells.
-/
import Derived.Test.YtbkgblhmlenocaaRows
import Derived.WalkKit
import Derived.ProofKit
import Derived.OpenShut
import Derived.ShutString
import Derived.ChangeOld
import Derived.Below
import Derived.Deep.DeepHandedRow
import Derived.Lib.LaidTab
import Derived.Stop.LaidErr
import Derived.SizedLaws
import Derived.Test.YtbkgblhmlenocaaEd
import Derived.Test.YtbkgblhmlenocaaEls
import Derived.Test.YtbkgblhmlenocaaWNetExact
import Derived.Test.YtbkgblhmlenocaaPNetExact
namespace Go.Proofs.Ytbkgblhmlenocaa.netExact
open Go.ChangeShapes Go.WideShapes Go.ChangeAt Go.RowKit Go.LW
set_option linter.unusedSimpArgs false
set_option linter.unusedVariables false
set_option linter.unusedSectionVars false

theorem own : ownKnob Try.prog.godebug = none := by kernel_rfl
theorem laidOut : laidOutB Try.prog = true := by kernel_rfl
theorem lifts89 : D89.lifts := by
  intro L L' b x hs h
  obtain ⟨_, h4⟩ := h
  exact h4.lift hs
theorem opens89 (w : World) : Opens Try.prog w reachBytes D89 (3 :: (3 :: (3 :: (3 :: (23 :: ([] : List TypeId)))))) (fun x => IntKind.i64.has x.1 ∧ IntKind.i64.has x.2.1 ∧ IntKind.i64.has x.2.2.1 ∧ IntKind.i64.has x.2.2.2.1 ∧ x.2.2.2.2.length ≤ reachBytes) := by
  intro cells h_0
  obtain ⟨x0, cs0, rfl, hh0, h_1⟩ := h_0.intH Try.underlying3
  obtain ⟨x1, cs1, rfl, hh1, h_2⟩ := h_1.intH Try.underlying3
  obtain ⟨x2, cs2, rfl, hh2, h_3⟩ := h_2.intH Try.underlying3
  obtain ⟨x3, cs3, rfl, hh3, h_4⟩ := h_3.intH Try.underlying3
  obtain ⟨r4, a4, c4, x4, i4, cs4, hr4, hb4, rfl, h_5, hl4⟩ := h_4.bytes Try.underlying23
  cases h_5
  refine ⟨[r4], (a4, c4), (x0, x1, x2, x3, x4), ?_, hb4.lift (fun r hr => by simp only [List.mem_cons, List.not_mem_nil, or_false] at hr; subst hr; simp), ?_, ⟨hh0, hh1, hh2, hh3, hl4⟩⟩
  · exact fun r hr => by (simp only [List.mem_cons, List.not_mem_nil, or_false] at hr; rcases hr with rfl <;> assumption)
  · rfl
theorem leafs89 : leafs Try.prog 12 89 = some (3 :: (3 :: (3 :: (3 :: (23 :: ([] : List TypeId)))))) := by kernel_rfl
theorem lsz89 : Try.prog.cellsOf 89 = ((3 :: (3 :: (3 :: (3 :: (23 :: ([] : List TypeId))))))).length := by kernel_rfl
set_option maxRecDepth 100000 in
theorem contract (H : Type) (enc : TypeId × Value → H) (W : World) (base : Nat) (args : Array Value) (ds gs : List (DataW H)) (before : List MemPlace)
    (hval : ∀ (j : Nat) t v, Try.f9.params[j]? = some t → args[j]? = some v → Value.okWide Try.prog W .any base t v)
    (hW : DataW.Whole enc Try.prog Try.f9.params.toList Rows.netExactSpec.vars false W args.toList ds gs before)
    (hsz : (DataW.weightsEach Try.prog (Try.f9.params.toList ++ Rows.netExactSpec.plain.varTypes Try.prog) (ds ++ gs)).all (· ≤ reachBytes) = true) :
    Calls Try.prog 9 args W fun e W' => ∃ v, e = .returned v ∧ Rows.netExactSpec.post enc Try.prog Try.f9 false true false false W args v W' := by
  have hW' := hW
  obtain ⟨p, q, hA0, hV, rfl, hfz, hnd⟩ := hW
  have hA : DataW.TrodAll enc Try.prog W 0 (fun _ => true) true Try.f9.params.toList args.toList ds p := hA0
  rw [Try.params9] at hA hval hsz
  obtain ⟨v0, vs0, d0, ds0, p0, q0, hargs0, rfl, rfl, h0, r0⟩ := trodAll_cons hA
  obtain ⟨v1, vs1, d1, ds1, p1, q1, hargs1, rfl, rfl, h1, r1⟩ := trodAll_cons r0
  obtain ⟨v2, vs2, d2, ds2, p2, q2, hargs2, rfl, rfl, h2, r2⟩ := trodAll_cons r1
  obtain ⟨rfl, rfl, rfl⟩ := trodAll_nil r2
  obtain rfl : args = #[v0, v1, v2] := by cases args; simp_all
  obtain ⟨rfl, rfl⟩ := trodVars_none hV
  have k0 := h0
  have lt0 : ∀ x ∈ p0, x.block < W.heap.size := by obtain ⟨m, hm⟩ := k0; exact DataW.trod_lt m _ _ _ hm
  obtain ⟨X0, rfl, hX0⟩ := arg_int Try.underlying3 (hval 0 3 v0 rfl rfl)
  have k1 := h1
  have lt1 : ∀ x ∈ p1, x.block < W.heap.size := by obtain ⟨m, hm⟩ := k1; exact DataW.trod_lt m _ _ _ hm
  obtain ⟨X1, rfl, hX1⟩ := arg_int Try.underlying3 (hval 1 3 v1 rfl rfl)
  have k2 := h2
  have lt2 : ∀ x ∈ p2, x.block < W.heap.size := by obtain ⟨m, hm⟩ := k2; exact DataW.trod_lt m _ _ _ hm
  obtain ⟨a2, len2, cap2, rfl⟩ := okWide_slice Try.underlying83 (hval 2 83 v2 rfl rfl)
  obtain ⟨pr2, of2, G2, hrow2⟩ : ∃ pr of G, LRows Try.prog W reachBytes (3 :: (3 :: (3 :: (3 :: (23 :: ([] : List TypeId)))))) a2 len2 cap2 pr of G := by
    obtain ⟨fuel, hf⟩ := h2
    exact rows_open reachK Try.underlying83 leafs89 lsz89 (by decide) hf (fun n hn => by have := List.all_eq_true.1 hsz n (DataW.weights_mem_each (j := 2) (t := 83) rfl rfl n hn); simpa using this)
  clear hA0
  have hst := St.init W.heap.size W (Nat.le_refl _)
  have hro : roL [] := roL.nil
  obtain ⟨C2, X2, hst, hro, hV2, hQ2⟩ := hrow2.lv hst hro (opens89 W) lifts89 rfl
  have hR : lethelaw23_NetExact X0 X1 X2 true := netExact_true X0 X1 X2 (fun x hx => by obtain ⟨j, hj⟩ := List.mem_iff_getElem?.1 hx; exact (hQ2 j x hj).2.2.2.2)
  refine (lethelaw23_NetExact_ok (r := true) hV2.ofAt hR hst).mono fun e W' ⟨he, hs⟩ => ?_
  have bel := hs.below.toBelow
  subst he
  exact ⟨_, rfl, _, _, _, [], _, [], hW', trodAll_mk1 (shut_bool Try.underlying4 _), (trodAll_cons_mk (Below.trod laidOut (by kernel_rfl) (of_decide_eq_true (by kernel_rfl)) k0 bel lt0) (trodAll_cons_mk (Below.trod laidOut (by kernel_rfl) (of_decide_eq_true (by kernel_rfl)) k1 bel lt1) (trodAll_cons_mk (Below.trod laidOut (by kernel_rfl) (of_decide_eq_true (by kernel_rfl)) k2 bel lt2) trodAll_mk0))), rfl, bel.frame _, fun h => by cases h⟩
set_option maxRecDepth 100000 in
theorem lifted (os : Os) (started : os.Started) (H : Type) (enc : TypeId × Value → H) :
    ReturnsInHanded {} Try.checked os 9 .any (Rows.netExactSpec.pre6 enc Try.prog Try.f9 Rows.netExactRow.domain false) (Rows.netExactSpec.post enc Try.prog Try.f9 false true false false) := by
  refine returnsInHanded_of_change_sized (C := Try.checked) own started (by kernel_rfl) Try.func9
    (ChangeSpec.witness6 (enc := enc) (C := Try.checked) false ⟨#[], #[.int .i64 0, .int .i64 0, .slice none 0 0], []⟩ 8 (by kernel_rfl) (by kernel_rfl) (by kernel_rfl) (by kernel_rfl)) ?_
  intro W base args ds gs before hval0 hW hcnd hsz _
  exact contract H enc W base args ds gs before hval0 hW hsz
theorem over : Rows.netExactRow.holds Try.pinned (OpenSpec.ofChange Rows.netExactSpec) :=
  OpenClaim.holds_of_wide 9 Try.f9 rfl rfl rfl rfl rfl rfl rfl ⟨rfl, rfl, rfl, rfl, rfl⟩ rfl rfl rfl rfl rfl (by kernel_rfl) Try.func9 (by kernel_rfl)
    (of_decide_eq_true (by kernel_rfl)) (by unfold Func.isWrapper; first | (rw [if_pos (by decide +kernel)]; kernel_rfl) | (rw [if_neg (by decide +kernel)]; exact ⟨rfl, rfl⟩))
    (fun os started H enc _ => lifted os started H enc)
end Go.Proofs.Ytbkgblhmlenocaa.netExact
namespace Go.Proofs.Ytbkgblhmlenocaa
theorem netExact_holds : Rows.NetExactSaid := netExact.over
end Go.Proofs.Ytbkgblhmlenocaa
