/-
  THE LAW 'SkipsExact' OF THE GIVEN PROGRAM: FOR EVERY INPUT SHE RETURNS TRUE AND THE INPUT READS AS IT DID. CONDITIONS: the row's own cells.
-/
import Derived.Test.YtbkgblhmlenocaaRows
import Derived.WalkKit
import Derived.ProofKit
import Derived.OpenShut
import Derived.ShutString
import Derived.ChangeOld
import Derived.Below
import Derived.Deep.DeepHandedRow
import Derived.Lib.LaidTab
import Derived.Stop.LaidErr
import Derived.SizedLaws
import Derived.Test.YtbkgblhmlenocaaEd
import Derived.Test.YtbkgblhmlenocaaEls
import Derived.Test.YtbkgblhmlenocaaWSkipsExact
import Derived.Test.YtbkgblhmlenocaaPSkipsExact
namespace Go.Proofs.Ytbkgblhmlenocaa.skipsExact
open Go.ChangeShapes Go.WideShapes Go.ChangeAt Go.RowKit Go.LW
set_option linter.unusedSimpArgs false
set_option linter.unusedVariables false
set_option linter.unusedSectionVars false

theorem own : ownKnob Try.prog.godebug = none := by kernel_rfl
theorem laidOut : laidOutB Try.prog = true := by kernel_rfl
theorem leafs81 : leafs Try.prog 12 81 = some (73 :: (73 :: (List.replicate 32 5 ++ ([] : List TypeId)))) := by kernel_rfl
theorem leafsT81 : leafs2 Try.prog 12 81 = some (73 :: (73 :: (List.replicate 32 5 ++ ([] : List TypeId)))) := by kernel_rfl
theorem lsz81 : Try.prog.cellsOf 81 = ((73 :: (73 :: (List.replicate 32 5 ++ ([] : List TypeId))))).length := by kernel_rfl
theorem lifts81 : D81.lifts := fun _ _ _ _ _ h => h
theorem opensT81 (w : World) : Opens2 Try.prog w reachBytes D81 (73 :: (73 :: (List.replicate 32 5 ++ ([] : List TypeId)))) (fun _ => True) := by
  intro cells h_0
  obtain ⟨x0, cs0, rfl, h_1⟩ := h_0.num .u32 Try.underlying73
  obtain ⟨x1, cs1, rfl, h_2⟩ := h_1.num .u32 Try.underlying73
  obtain ⟨x2, cs2, rfl, h_3⟩ := h_2.part (n := 32) .u8 Try.underlying5
  cases h_3
  refine ⟨[], (), (x0, x1, x2), ?_, trivial, ?_, trivial⟩
  · exact fun r hr => by cases hr
  · rfl
theorem leafs71 : leafs Try.prog 12 71 = some (List.replicate 32 5 ++ ([] : List TypeId)) := by kernel_rfl
theorem lsz71 : Try.prog.cellsOf 71 = ((List.replicate 32 5 ++ ([] : List TypeId))).length := by kernel_rfl
theorem lifts71 : D71.lifts := fun _ _ _ _ _ h => h
theorem opens71 (w : World) : Opens Try.prog w reachBytes D71 (List.replicate 32 5 ++ ([] : List TypeId)) (fun _ => True) := by
  intro cells h_0
  obtain ⟨x0, cs0, rfl, h_1⟩ := h_0.part (n := 32) .u8 Try.underlying5
  cases h_1
  refine ⟨[], (), x0, ?_, trivial, ?_, trivial⟩
  · exact fun r hr => by cases hr
  · rfl
theorem leafsT113 : leafs2 Try.prog 12 113 = some (3 :: (73 :: (73 :: (66 :: ([] : List TypeId))))) := by kernel_rfl
theorem lsz113 : Try.prog.cellsOf 113 = ((3 :: (73 :: (73 :: (66 :: ([] : List TypeId)))))).length := by kernel_rfl
theorem lifts113 : D113.lifts := D113_lifts
theorem opensT113 (w : World) : Opens2 Try.prog w reachBytes D113 (3 :: (73 :: (73 :: (66 :: ([] : List TypeId))))) (fun x => x.2.2.2.length * Try.prog.bytesOf 71 ≤ reachBytes) := by
  intro cells h_0
  obtain ⟨x0, cs0, rfl, h_1⟩ := h_0.int Try.underlying3
  obtain ⟨x1, cs1, rfl, h_2⟩ := h_1.num .u32 Try.underlying73
  obtain ⟨x2, cs2, rfl, h_3⟩ := h_2.num .u32 Try.underlying73
  obtain ⟨R3, a3, c3, x3, i3, cs3, hr3, hb3, rfl, h_4, hf3, _⟩ := h_3.rows Try.underlying66 (fun k hk => by rw [Try.underlying71] at hk; cases hk) leafs71 (opens71 w) lifts71 rfl
  cases h_4
  refine ⟨R3, (a3, c3), (x0, x1, x2, x3), ?_, LV.lift D71_flat hb3 (fun r hr => by simp [List.mem_append, hr]), ?_, Nat.le_trans (Nat.mul_le_mul_right _ hb3.2.1) hf3⟩
  · intro r hr
    try simp only [List.mem_append, List.mem_singleton, or_assoc] at hr
    rcases hr with hr
    · exact hr3 r hr
  · rfl
set_option maxRecDepth 100000 in
theorem contract (H : Type) (enc : TypeId × Value → H) (W : World) (base : Nat) (args : Array Value) (ds gs : List (DataW H)) (before : List MemPlace)
    (hval : ∀ (j : Nat) t v, Try.f13.params[j]? = some t → args[j]? = some v → Value.okWide Try.prog W .any base t v)
    (hW : DataW.Whole enc Try.prog Try.f13.params.toList Rows.skipsExactSpec.vars false W args.toList ds gs before)
    (hsz : (DataW.weightsEach Try.prog (Try.f13.params.toList ++ Rows.skipsExactSpec.plain.varTypes Try.prog) (ds ++ gs)).all (· ≤ reachBytes) = true) :
    Calls Try.prog 13 args W fun e W' => ∃ v, e = .returned v ∧ Rows.skipsExactSpec.post enc Try.prog Try.f13 false true false false W args v W' := by
  have hW' := hW
  obtain ⟨p, q, hA0, hV, rfl, hfz, hnd⟩ := hW
  have hA : DataW.TrodAll enc Try.prog W 0 (fun _ => true) true Try.f13.params.toList args.toList ds p := hA0
  rw [Try.params13] at hA hval hsz
  obtain ⟨v0, vs0, d0, ds0, p0, q0, hargs0, rfl, rfl, h0, r0⟩ := trodAll_cons hA
  obtain ⟨v1, vs1, d1, ds1, p1, q1, hargs1, rfl, rfl, h1, r1⟩ := trodAll_cons r0
  obtain ⟨v2, vs2, d2, ds2, p2, q2, hargs2, rfl, rfl, h2, r2⟩ := trodAll_cons r1
  obtain ⟨rfl, rfl, rfl⟩ := trodAll_nil r2
  obtain rfl : args = #[v0, v1, v2] := by cases args; simp_all
  obtain ⟨rfl, rfl⟩ := trodVars_none hV
  have k0 := h0
  have lt0 : ∀ x ∈ p0, x.block < W.heap.size := by obtain ⟨m, hm⟩ := k0; exact DataW.trod_lt m _ _ _ hm
  obtain ⟨X0, rfl, hX0⟩ := arg_int Try.underlying3 (hval 0 3 v0 rfl rfl)
  have k1 := h1
  have lt1 : ∀ x ∈ p1, x.block < W.heap.size := by obtain ⟨m, hm⟩ := k1; exact DataW.trod_lt m _ _ _ hm
  obtain ⟨a1, len1, cap1, rfl⟩ := okWide_slice Try.underlying78 (hval 1 78 v1 rfl rfl)
  obtain ⟨pr1, of1, G1, hrow1⟩ : ∃ pr of G, LRows2 Try.prog W reachBytes 81 (73 :: (73 :: (List.replicate 32 5 ++ ([] : List TypeId)))) a1 len1 cap1 pr of G := by
    obtain ⟨fuel, hf⟩ := h1
    exact rows2_open reachK2 Try.underlying78 leafsT81 lsz81 (by decide) hf (fun n hn => by have := List.all_eq_true.1 hsz n (DataW.weights_mem_each (j := 1) (t := 78) rfl rfl n hn); simpa using this)
  have k2 := h2
  have lt2 : ∀ x ∈ p2, x.block < W.heap.size := by obtain ⟨m, hm⟩ := k2; exact DataW.trod_lt m _ _ _ hm
  obtain ⟨a2, len2, cap2, rfl⟩ := okWide_slice Try.underlying102 (hval 2 102 v2 rfl rfl)
  obtain ⟨pr2, of2, G2, hrow2⟩ : ∃ pr of G, LRows2 Try.prog W reachBytes 113 (3 :: (73 :: (73 :: (66 :: ([] : List TypeId))))) a2 len2 cap2 pr of G := by
    obtain ⟨fuel, hf⟩ := h2
    exact rows2_open reachK2 Try.underlying102 leafsT113 lsz113 (by decide) hf (fun n hn => by have := List.all_eq_true.1 hsz n (DataW.weights_mem_each (j := 2) (t := 102) rfl rfl n hn); simpa using this)
  clear hA0
  have hst := St.init W.heap.size W (Nat.le_refl _)
  have hro : roL [] := roL.nil
  obtain ⟨C1, X1, hst, hro, hV1, hQ1⟩ := hrow1.lv hst hro (opensT81 W) lifts81 rfl
  have hF1 : X1.length * Try.prog.bytesOf 81 ≤ reachBytes := by
    have h1 := hV1.1; have h2 := hrow1.fat; have h3 := hrow1.le
    rw [h1]; exact Nat.le_trans (Nat.mul_le_mul_right _ h3) h2
  obtain ⟨C2, X2, hst, hro, hV2, hQ2⟩ := hrow2.lv hst hro (opensT113 W) lifts113 rfl
  have hF2 : X2.length * Try.prog.bytesOf 113 ≤ reachBytes := by
    have h1 := hV2.1; have h2 := hrow2.fat; have h3 := hrow2.le
    rw [h1]; exact Nat.le_trans (Nat.mul_le_mul_right _ h3) h2
  replace hV1 := hV1.app C2
  have hR : lethelaw15_SkipsExact X0 X1 X2 true := skipsExact_true X0 X1 X2 ((by omega : ∀ n : Nat, n * 40 ≤ 140737488351232 → (n + 2) * 40 ≤ 140737488355328) _ (by rw [show Try.prog.bytesOf 81 = 40 by kernel_rfl] at hF1; exact Nat.le_trans hF1 (by decide))) (fun x hx => by obtain ⟨j, hj⟩ := List.mem_iff_getElem?.1 hx; have h1 := hQ2 j x hj; rw [show Try.prog.bytesOf 71 = 32 by kernel_rfl] at h1; exact (by omega : ∀ n : Nat, n * 32 ≤ 140737488351232 → (n + 2) * 32 ≤ 140737488355328) _ (Nat.le_trans h1 (by decide)))
  refine (lethelaw15_SkipsExact_ok (r := true) hV1 hV2.ofAt hR hst).mono fun e W' ⟨he, hs⟩ => ?_
  have bel := hs.below.toBelow
  subst he
  exact ⟨_, rfl, _, _, _, [], _, [], hW', trodAll_mk1 (shut_bool Try.underlying4 _), (trodAll_cons_mk (Below.trod laidOut (by kernel_rfl) (of_decide_eq_true (by kernel_rfl)) k0 bel lt0) (trodAll_cons_mk (Below.trod laidOut (by kernel_rfl) (of_decide_eq_true (by kernel_rfl)) k1 bel lt1) (trodAll_cons_mk (Below.trod laidOut (by kernel_rfl) (of_decide_eq_true (by kernel_rfl)) k2 bel lt2) trodAll_mk0))), rfl, bel.frame _, fun h => by cases h⟩
set_option maxRecDepth 100000 in
theorem lifted (os : Os) (started : os.Started) (H : Type) (enc : TypeId × Value → H) :
    ReturnsInHanded {} Try.checked os 13 .any (Rows.skipsExactSpec.pre6 enc Try.prog Try.f13 Rows.skipsExactRow.domain false) (Rows.skipsExactSpec.post enc Try.prog Try.f13 false true false false) := by
  refine returnsInHanded_of_change_sized (C := Try.checked) own started (by kernel_rfl) Try.func13
    (ChangeSpec.witness6 (enc := enc) (C := Try.checked) false ⟨#[], #[.int .i64 0, .slice none 0 0, .slice none 0 0], []⟩ 8 (by kernel_rfl) (by kernel_rfl) (by kernel_rfl) (by kernel_rfl)) ?_
  intro W base args ds gs before hval0 hW hcnd hsz _
  exact contract H enc W base args ds gs before hval0 hW hsz
theorem over : Rows.skipsExactRow.holds Try.pinned (OpenSpec.ofChange Rows.skipsExactSpec) :=
  OpenClaim.holds_of_wide 13 Try.f13 rfl rfl rfl rfl rfl rfl rfl ⟨rfl, rfl, rfl, rfl, rfl⟩ rfl rfl rfl rfl rfl (by kernel_rfl) Try.func13 (by kernel_rfl)
    (of_decide_eq_true (by kernel_rfl)) (by unfold Func.isWrapper; first | (rw [if_pos (by decide +kernel)]; kernel_rfl) | (rw [if_neg (by decide +kernel)]; exact ⟨rfl, rfl⟩))
    (fun os started H enc _ => lifted os started H enc)
end Go.Proofs.Ytbkgblhmlenocaa.skipsExact
namespace Go.Proofs.Ytbkgblhmlenocaa
theorem skipsExact_holds : Rows.SkipsExactSaid := skipsExact.over
end Go.Proofs.Ytbkgblhmlenocaa
