/-
  THE LAW 'PackBack' OF THE GIVEN PROGRAM: FOR EVERY INPUT SHE RETURNS TRUE AND THE INPUT READS AS IT DID. CONDITIONS: the row's own cells.
-/
import Derived.Test.YtbkgblhmlenocaaRows
import Derived.WalkKit
import Derived.ProofKit
import Derived.OpenShut
import Derived.ShutString
import Derived.ChangeOld
import Derived.Below
import Derived.Deep.DeepHandedRow
import Derived.Lib.LaidTab
import Derived.Stop.LaidErr
import Derived.SizedLaws
import Derived.Test.YtbkgblhmlenocaaEb
import Derived.Test.YtbkgblhmlenocaaEls
import Derived.Test.YtbkgblhmlenocaaWPackBack
import Derived.Test.YtbkgblhmlenocaaPPackBack
namespace Go.Proofs.Ytbkgblhmlenocaa.packBack
open Go.ChangeShapes Go.WideShapes Go.ChangeAt Go.RowKit Go.LW
set_option linter.unusedSimpArgs false
set_option linter.unusedVariables false
set_option linter.unusedSectionVars false

theorem own : ownKnob Try.prog.godebug = none := by kernel_rfl
theorem laidOut : laidOutB Try.prog = true := by kernel_rfl
theorem lifts25 : D25.lifts := by
  intro L L' b x hs h
  obtain ⟨⟨_, h1⟩, ⟨_, h2⟩⟩ := h
  exact ⟨h1.lift hs, h2.lift hs⟩
theorem opens25 (w : World) : Opens Try.prog w reachBytes D25 (3 :: (23 :: (23 :: ([] : List TypeId)))) (fun x => x.2.1.length ≤ reachBytes ∧ x.2.2.length ≤ reachBytes) := by
  intro cells h_0
  obtain ⟨x0, cs0, rfl, h_1⟩ := h_0.int Try.underlying3
  obtain ⟨r1, a1, c1, x1, i1, cs1, hr1, hb1, rfl, h_2, hl1⟩ := h_1.bytes Try.underlying23
  obtain ⟨r2, a2, c2, x2, i2, cs2, hr2, hb2, rfl, h_3, hl2⟩ := h_2.bytes Try.underlying23
  cases h_3
  refine ⟨[r1, r2], ((a1, c1), (a2, c2)), (x0, x1, x2), ?_, ⟨hb1.lift (fun r hr => by simp only [List.mem_cons, List.not_mem_nil, or_false] at hr; subst hr; simp), hb2.lift (fun r hr => by simp only [List.mem_cons, List.not_mem_nil, or_false] at hr; subst hr; simp)⟩, ?_, ⟨hl1, hl2⟩⟩
  · exact fun r hr => by (simp only [List.mem_cons, List.not_mem_nil, or_false] at hr; rcases hr with rfl | rfl <;> assumption)
  · rfl
theorem leafs25 : leafs Try.prog 12 25 = some (3 :: (23 :: (23 :: ([] : List TypeId)))) := by kernel_rfl
theorem lsz25 : Try.prog.cellsOf 25 = ((3 :: (23 :: (23 :: ([] : List TypeId))))).length := by kernel_rfl
set_option maxRecDepth 100000 in
theorem contract (H : Type) (enc : TypeId × Value → H) (W : World) (base : Nat) (args : Array Value) (ds gs : List (DataW H)) (before : List MemPlace)
    (hval : ∀ (j : Nat) t v, Try.f6.params[j]? = some t → args[j]? = some v → Value.okWide Try.prog W .any base t v)
    (hW : DataW.Whole enc Try.prog Try.f6.params.toList Rows.packBackSpec.vars false W args.toList ds gs before)
    (hsz : (DataW.weightsEach Try.prog (Try.f6.params.toList ++ Rows.packBackSpec.plain.varTypes Try.prog) (ds ++ gs)).all (· ≤ reachBytes) = true) :
    Calls Try.prog 6 args W fun e W' => ∃ v, e = .returned v ∧ Rows.packBackSpec.post enc Try.prog Try.f6 false true false false W args v W' := by
  have hW' := hW
  obtain ⟨p, q, hA0, hV, rfl, hfz, hnd⟩ := hW
  have hA : DataW.TrodAll enc Try.prog W 0 (fun _ => true) true Try.f6.params.toList args.toList ds p := hA0
  rw [Try.params6] at hA hval hsz
  obtain ⟨v0, vs0, d0, ds0, p0, q0, hargs0, rfl, rfl, h0, r0⟩ := trodAll_cons hA
  obtain ⟨rfl, rfl, rfl⟩ := trodAll_nil r0
  obtain rfl : args = #[v0] := by cases args; simp_all
  obtain ⟨rfl, rfl⟩ := trodVars_none hV
  have k0 := h0
  have lt0 : ∀ x ∈ p0, x.block < W.heap.size := by obtain ⟨m, hm⟩ := k0; exact DataW.trod_lt m _ _ _ hm
  obtain ⟨a0, len0, cap0, rfl⟩ := okWide_slice Try.underlying22 (hval 0 22 v0 rfl rfl)
  obtain ⟨pr0, of0, G0, hrow0⟩ : ∃ pr of G, LRows Try.prog W reachBytes (3 :: (23 :: (23 :: ([] : List TypeId)))) a0 len0 cap0 pr of G := by
    obtain ⟨fuel, hf⟩ := h0
    exact rows_open reachK Try.underlying22 leafs25 lsz25 (by decide) hf (fun n hn => by have := List.all_eq_true.1 hsz n (DataW.weights_mem_each (j := 0) (t := 22) rfl rfl n hn); simpa using this)
  clear hA0
  have hst := St.init W.heap.size W (Nat.le_refl _)
  have hro : roL [] := roL.nil
  obtain ⟨C0, X0, hst, hro, hV0, hQ0⟩ := hrow0.lv hst hro (opens25 W) lifts25 rfl
  have hR : lethelaw11_PackBack X0 true := packBack_true X0
  refine (lethelaw11_PackBack_ok (r := true) hV0.ofAt hR hst).mono fun e W' ⟨he, hs⟩ => ?_
  have bel := hs.below
  subst he
  exact ⟨_, rfl, _, _, _, [], _, [], hW', trodAll_mk1 (shut_bool Try.underlying4 _), (trodAll_cons_mk (Below.trod laidOut (by kernel_rfl) (of_decide_eq_true (by kernel_rfl)) k0 bel lt0) trodAll_mk0), rfl, bel.frame _, fun h => by cases h⟩
set_option maxRecDepth 100000 in
theorem lifted (os : Os) (started : os.Started) (H : Type) (enc : TypeId × Value → H) :
    ReturnsInHanded {} Try.checked os 6 .any (Rows.packBackSpec.pre6 enc Try.prog Try.f6 Rows.packBackRow.domain false) (Rows.packBackSpec.post enc Try.prog Try.f6 false true false false) := by
  refine returnsInHanded_of_change_sized (C := Try.checked) own started (by kernel_rfl) Try.func6
    (ChangeSpec.witness6 (enc := enc) (C := Try.checked) false ⟨#[], #[.slice none 0 0], []⟩ 8 (by kernel_rfl) (by kernel_rfl) (by kernel_rfl) (by kernel_rfl)) ?_
  intro W base args ds gs before hval0 hW hcnd hsz _
  exact contract H enc W base args ds gs before hval0 hW hsz
theorem over : Rows.packBackRow.holds Try.pinned (OpenSpec.ofChange Rows.packBackSpec) :=
  OpenClaim.holds_of_wide 6 Try.f6 rfl rfl rfl rfl rfl rfl rfl ⟨rfl, rfl, rfl, rfl, rfl⟩ rfl rfl rfl rfl rfl (by kernel_rfl) Try.func6 (by kernel_rfl)
    (of_decide_eq_true (by kernel_rfl)) (by unfold Func.isWrapper; first | (rw [if_pos (by decide +kernel)]; kernel_rfl) | (rw [if_neg (by decide +kernel)]; exact ⟨rfl, rfl⟩))
    (fun os started H enc _ => lifted os started H enc)
end Go.Proofs.Ytbkgblhmlenocaa.packBack
namespace Go.Proofs.Ytbkgblhmlenocaa
theorem packBack_holds : Rows.PackBackSaid := packBack.over
end Go.Proofs.Ytbkgblhmlenocaa
