/-
  THE LAW 'AesExact' OF THE GIVEN PROGRAM: FOR EVERY INPUT SHE RETURNS TRUE AND THE INPUT READS AS IT DID. CONDITIONS: the row's own cells.
-/
import Derived.Test.YthjkmhdgenmnoaaRows
import Derived.WalkKit
import Derived.ProofKit
import Derived.OpenShut
import Derived.ShutString
import Derived.ChangeOld
import Derived.Below
import Derived.Deep.DeepHandedRow
import Derived.Lib.LaidTab
import Derived.Stop.LaidErr
import Derived.SizedLaws
import Derived.Test.YthjkmhdgenmnoaaEc
import Derived.Test.YthjkmhdgenmnoaaEls
import Derived.Test.YthjkmhdgenmnoaaWAesExact
import Derived.Test.YthjkmhdgenmnoaaPAesExact
namespace Go.Proofs.Ythjkmhdgenmnoaa.aesExact
open Go.ChangeShapes Go.WideShapes Go.ChangeAt Go.RowKit Go.LW
set_option linter.unusedSimpArgs false
set_option linter.unusedVariables false
set_option linter.unusedSectionVars false

theorem own : ownKnob Try.prog.godebug = none := by kernel_rfl
theorem laidOut : laidOutB Try.prog = true := by kernel_rfl
theorem lifts56 : D56.lifts := by
  intro L L' b x hs h
  obtain ⟨_, h6⟩ := h
  exact h6.lift hs
theorem opens56 (w : World) : Opens Try.prog w reachBytes D56 (3 :: (3 :: (5 :: (5 :: (29 :: (List.replicate 16 5 ++ (28 :: ([] : List TypeId)))))))) (fun x => x.2.2.2.2.2.2.length ≤ reachBytes) := by
  intro cells h_0
  obtain ⟨x0, cs0, rfl, h_1⟩ := h_0.int Try.underlying3
  obtain ⟨x1, cs1, rfl, h_2⟩ := h_1.int Try.underlying3
  obtain ⟨x2, cs2, rfl, h_3⟩ := h_2.num .u8 Try.underlying5
  obtain ⟨x3, cs3, rfl, h_4⟩ := h_3.num .u8 Try.underlying5
  obtain ⟨x4, cs4, rfl, h_5⟩ := h_4.num .u64 Try.underlying29
  obtain ⟨x5, cs5, rfl, h_6⟩ := h_5.part (n := 16) .u8 Try.underlying5
  obtain ⟨r6, a6, c6, x6, i6, cs6, hr6, hb6, rfl, h_7, hl6⟩ := h_6.bytes Try.underlying28
  cases h_7
  refine ⟨[r6], (a6, c6), (x0, x1, x2, x3, x4, x5, x6), ?_, hb6.lift (fun r hr => by simp only [List.mem_cons, List.not_mem_nil, or_false] at hr; subst hr; simp), ?_, hl6⟩
  · exact fun r hr => by (simp only [List.mem_cons, List.not_mem_nil, or_false] at hr; rcases hr with rfl <;> assumption)
  · rfl
theorem leafs56 : leafs Try.prog 12 56 = some (3 :: (3 :: (5 :: (5 :: (29 :: (List.replicate 16 5 ++ (28 :: ([] : List TypeId)))))))) := by kernel_rfl
theorem lsz56 : Try.prog.cellsOf 56 = ((3 :: (3 :: (5 :: (5 :: (29 :: (List.replicate 16 5 ++ (28 :: ([] : List TypeId))))))))).length := by kernel_rfl
set_option maxRecDepth 100000 in
theorem contract (H : Type) (enc : TypeId × Value → H) (W : World) (base : Nat) (args : Array Value) (ds gs : List (DataW H)) (before : List MemPlace)
    (hval : ∀ (j : Nat) t v, Try.f8.params[j]? = some t → args[j]? = some v → Value.okWide Try.prog W .any base t v)
    (hW : DataW.Whole enc Try.prog Try.f8.params.toList Rows.aesExactSpec.vars false W args.toList ds gs before)
    (hsz : (DataW.weightsEach Try.prog (Try.f8.params.toList ++ Rows.aesExactSpec.plain.varTypes Try.prog) (ds ++ gs)).all (· ≤ reachBytes) = true) :
    Calls Try.prog 8 args W fun e W' => ∃ v, e = .returned v ∧ Rows.aesExactSpec.post enc Try.prog Try.f8 false true false false W args v W' := by
  have hW' := hW
  obtain ⟨p, q, hA0, hV, rfl, hfz, hnd⟩ := hW
  have hA : DataW.TrodAll enc Try.prog W 0 (fun _ => true) true Try.f8.params.toList args.toList ds p := hA0
  rw [Try.params8] at hA hval hsz
  obtain ⟨v0, vs0, d0, ds0, p0, q0, hargs0, rfl, rfl, h0, r0⟩ := trodAll_cons hA
  obtain ⟨rfl, rfl, rfl⟩ := trodAll_nil r0
  obtain rfl : args = #[v0] := by cases args; simp_all
  obtain ⟨rfl, rfl⟩ := trodVars_none hV
  have k0 := h0
  have lt0 : ∀ x ∈ p0, x.block < W.heap.size := by obtain ⟨m, hm⟩ := k0; exact DataW.trod_lt m _ _ _ hm
  obtain ⟨a0, len0, cap0, rfl⟩ := okWide_slice Try.underlying44 (hval 0 44 v0 rfl rfl)
  obtain ⟨pr0, of0, G0, hrow0⟩ : ∃ pr of G, LRows Try.prog W reachBytes (3 :: (3 :: (5 :: (5 :: (29 :: (List.replicate 16 5 ++ (28 :: ([] : List TypeId)))))))) a0 len0 cap0 pr of G := by
    obtain ⟨fuel, hf⟩ := h0
    exact rows_open reachK Try.underlying44 leafs56 lsz56 (by decide) hf (fun n hn => by have := List.all_eq_true.1 hsz n (DataW.weights_mem_each (j := 0) (t := 44) rfl rfl n hn); simpa using this)
  clear hA0
  have hst := St.init W.heap.size W (Nat.le_refl _)
  have hro : roL [] := roL.nil
  obtain ⟨C0, X0, hst, hro, hV0, hQ0⟩ := hrow0.lv hst hro (opens56 W) lifts56 rfl
  have hR : lethelaw04_AesExact X0 true := aesExact_true X0 hQ0
  refine (lethelaw04_AesExact_ok (r := true) hV0.ofAt hR hst).mono fun e W' ⟨he, hs⟩ => ?_
  have bel := hs.below
  subst he
  exact ⟨_, rfl, _, _, _, [], _, [], hW', trodAll_mk1 (shut_bool Try.underlying4 _), (trodAll_cons_mk (Below.trod laidOut (by kernel_rfl) (of_decide_eq_true (by kernel_rfl)) k0 bel lt0) trodAll_mk0), rfl, bel.frame _, fun h => by cases h⟩
set_option maxRecDepth 100000 in
theorem lifted (os : Os) (started : os.Started) (H : Type) (enc : TypeId × Value → H) :
    ReturnsInHanded {} Try.checked os 8 .any (Rows.aesExactSpec.pre6 enc Try.prog Try.f8 Rows.aesExactRow.domain false) (Rows.aesExactSpec.post enc Try.prog Try.f8 false true false false) := by
  refine returnsInHanded_of_change_sized (C := Try.checked) own started (by kernel_rfl) Try.func8
    (ChangeSpec.witness6 (enc := enc) (C := Try.checked) false ⟨#[], #[.slice none 0 0], []⟩ 8 (by kernel_rfl) (by kernel_rfl) (by kernel_rfl) (by kernel_rfl)) ?_
  intro W base args ds gs before hval0 hW hcnd hsz _
  exact contract H enc W base args ds gs before hval0 hW hsz
theorem over : Rows.aesExactRow.holds Try.pinned (OpenSpec.ofChange Rows.aesExactSpec) :=
  OpenClaim.holds_of_wide 8 Try.f8 rfl rfl rfl rfl rfl rfl rfl ⟨rfl, rfl, rfl, rfl, rfl⟩ rfl rfl rfl rfl rfl (by kernel_rfl) Try.func8 (by kernel_rfl)
    (of_decide_eq_true (by kernel_rfl)) (by unfold Func.isWrapper; first | (rw [if_pos (by decide +kernel)]; kernel_rfl) | (rw [if_neg (by decide +kernel)]; exact ⟨rfl, rfl⟩))
    (fun os started H enc _ => lifted os started H enc)
end Go.Proofs.Ythjkmhdgenmnoaa.aesExact
namespace Go.Proofs.Ythjkmhdgenmnoaa
theorem aesExact_holds : Rows.AesExactSaid := aesExact.over
end Go.Proofs.Ythjkmhdgenmnoaa
