/-
  THE LAW 'PackFinds' OF THE GIVEN PROGRAM: FOR EVERY INPUT SHE RETURNS TRUE AND THE INPUT READS AS IT DID. CONDITIONS: the row's own cells.
-/
import Derived.Test.YtbkgblhmlenocaaRows
import Derived.WalkKit
import Derived.ProofKit
import Derived.OpenShut
import Derived.ShutString
import Derived.ChangeOld
import Derived.Below
import Derived.Deep.DeepHandedRow
import Derived.Lib.LaidTab
import Derived.Stop.LaidErr
import Derived.SizedLaws
import Derived.Test.YtbkgblhmlenocaaEb
import Derived.Test.YtbkgblhmlenocaaEls
import Derived.Test.YtbkgblhmlenocaaWPackFinds
import Derived.Test.YtbkgblhmlenocaaPPackFinds
namespace Go.Proofs.Ytbkgblhmlenocaa.packFinds
open Go.ChangeShapes Go.WideShapes Go.ChangeAt Go.RowKit Go.LW
set_option linter.unusedSimpArgs false
set_option linter.unusedVariables false
set_option linter.unusedSectionVars false

theorem own : ownKnob Try.prog.godebug = none := by kernel_rfl
theorem laidOut : laidOutB Try.prog = true := by kernel_rfl
theorem lifts25 : D25.lifts := by
  intro L L' b x hs h
  obtain ⟨⟨_, h1⟩, ⟨_, h2⟩⟩ := h
  exact ⟨h1.lift hs, h2.lift hs⟩
theorem opens25 (w : World) : Opens Try.prog w reachBytes D25 (3 :: (23 :: (23 :: ([] : List TypeId)))) (fun x => x.2.1.length ≤ reachBytes ∧ x.2.2.length ≤ reachBytes) := by
  intro cells h_0
  obtain ⟨x0, cs0, rfl, h_1⟩ := h_0.int Try.underlying3
  obtain ⟨r1, a1, c1, x1, i1, cs1, hr1, hb1, rfl, h_2, hl1⟩ := h_1.bytes Try.underlying23
  obtain ⟨r2, a2, c2, x2, i2, cs2, hr2, hb2, rfl, h_3, hl2⟩ := h_2.bytes Try.underlying23
  cases h_3
  refine ⟨[r1, r2], ((a1, c1), (a2, c2)), (x0, x1, x2), ?_, ⟨hb1.lift (fun r hr => by simp only [List.mem_cons, List.not_mem_nil, or_false] at hr; subst hr; simp), hb2.lift (fun r hr => by simp only [List.mem_cons, List.not_mem_nil, or_false] at hr; subst hr; simp)⟩, ?_, ⟨hl1, hl2⟩⟩
  · exact fun r hr => by (simp only [List.mem_cons, List.not_mem_nil, or_false] at hr; rcases hr with rfl | rfl <;> assumption)
  · rfl
theorem leafs25 : leafs Try.prog 12 25 = some (3 :: (23 :: (23 :: ([] : List TypeId)))) := by kernel_rfl
theorem lsz25 : Try.prog.cellsOf 25 = ((3 :: (23 :: (23 :: ([] : List TypeId))))).length := by kernel_rfl
theorem ts25 : Try.prog.cellTypes Try.prog.depth 25 = some (3 :: (23 :: (23 :: ([] : List TypeId)))) := by kernel_rfl
theorem co25 : Try.prog.cellsOf 25 = ((3 :: (23 :: (23 :: ([] : List TypeId))))).length := by kernel_rfl
set_option maxRecDepth 100000 in
theorem contract (H : Type) (enc : TypeId × Value → H) (W : World) (base : Nat) (args : Array Value) (ds gs : List (DataW H)) (before : List MemPlace)
    (hval : ∀ (j : Nat) t v, Try.f3.params[j]? = some t → args[j]? = some v → Value.okWide Try.prog W .any base t v)
    (hW : DataW.Whole enc Try.prog Try.f3.params.toList Rows.packFindsSpec.vars false W args.toList ds gs before)
    (hsz : (DataW.weightsEach Try.prog (Try.f3.params.toList ++ Rows.packFindsSpec.plain.varTypes Try.prog) (ds ++ gs)).all (· ≤ reachBytes) = true) :
    Calls Try.prog 3 args W fun e W' => ∃ v, e = .returned v ∧ Rows.packFindsSpec.post enc Try.prog Try.f3 false true false false W args v W' := by
  have hW' := hW
  obtain ⟨p, q, hA0, hV, rfl, hfz, hnd⟩ := hW
  have hA : DataW.TrodAll enc Try.prog W 0 (fun _ => true) true Try.f3.params.toList args.toList ds p := hA0
  rw [Try.params3] at hA hval hsz
  obtain ⟨v0, vs0, d0, ds0, p0, q0, hargs0, rfl, rfl, h0, r0⟩ := trodAll_cons hA
  obtain ⟨v1, vs1, d1, ds1, p1, q1, hargs1, rfl, rfl, h1, r1⟩ := trodAll_cons r0
  obtain ⟨v2, vs2, d2, ds2, p2, q2, hargs2, rfl, rfl, h2, r2⟩ := trodAll_cons r1
  obtain ⟨rfl, rfl, rfl⟩ := trodAll_nil r2
  obtain rfl : args = #[v0, v1, v2] := by cases args; simp_all
  obtain ⟨rfl, rfl⟩ := trodVars_none hV
  have k0 := h0
  have lt0 : ∀ x ∈ p0, x.block < W.heap.size := by obtain ⟨m, hm⟩ := k0; exact DataW.trod_lt m _ _ _ hm
  obtain ⟨a0, len0, cap0, rfl⟩ := okWide_slice Try.underlying22 (hval 0 22 v0 rfl rfl)
  obtain ⟨pr0, of0, G0, hrow0⟩ : ∃ pr of G, LRows Try.prog W reachBytes (3 :: (23 :: (23 :: ([] : List TypeId)))) a0 len0 cap0 pr of G := by
    obtain ⟨fuel, hf⟩ := h0
    exact rows_open reachK Try.underlying22 leafs25 lsz25 (by decide) hf (fun n hn => by have := List.all_eq_true.1 hsz n (DataW.weights_mem_each (j := 0) (t := 22) rfl rfl n hn); simpa using this)
  have k1 := h1
  have lt1 : ∀ x ∈ p1, x.block < W.heap.size := by obtain ⟨m, hm⟩ := k1; exact DataW.trod_lt m _ _ _ hm
  obtain ⟨cs1, ag1, ck1⟩ := arg_str Try.underlying25 ts25 co25 (hval 1 25 v1 rfl rfl)
  obtain ⟨cs1, ag1, ck1⟩ := arg_str Try.underlying25 ts25 co25 (hval 1 25 v1 rfl rfl)
  have lf1 : LfL Try.prog W reachBytes (3 :: (23 :: (23 :: ([] : List TypeId)))) cs1 := by
    obtain ⟨fuel, hf⟩ := h1
    unfold AggP at ag1
    rw [ag1] at hf
    exact leafs_ok reachK 12 25 _ leafs25 fuel _ _ hf (fun n hn => by have := List.all_eq_true.1 hsz n (DataW.weights_mem_each (j := 1) (t := 25) rfl rfl n hn); simpa using this)
  obtain ⟨X1_0, cs1_0, rfl, lf1_0⟩ := lf1.int Try.underlying3
  obtain ⟨rr1_1, aa1_1, cc1_1, X1_1, ii1_1, cs1_1, hr1_1, hb1_1, rfl, lf1_1, hl1_1⟩ := lf1_0.bytes Try.underlying23
  obtain ⟨rr1_2, aa1_2, cc1_2, X1_2, ii1_2, cs1_2, hr1_2, hb1_2, rfl, lf1_2, hl1_2⟩ := lf1_1.bytes Try.underlying23
  cases lf1_2
  unfold AggP at ag1
  subst ag1
  have k2 := h2
  have lt2 : ∀ x ∈ p2, x.block < W.heap.size := by obtain ⟨m, hm⟩ := k2; exact DataW.trod_lt m _ _ _ hm
  obtain ⟨cs2, ag2, ck2⟩ := arg_str Try.underlying25 ts25 co25 (hval 2 25 v2 rfl rfl)
  obtain ⟨cs2, ag2, ck2⟩ := arg_str Try.underlying25 ts25 co25 (hval 2 25 v2 rfl rfl)
  have lf2 : LfL Try.prog W reachBytes (3 :: (23 :: (23 :: ([] : List TypeId)))) cs2 := by
    obtain ⟨fuel, hf⟩ := h2
    unfold AggP at ag2
    rw [ag2] at hf
    exact leafs_ok reachK 12 25 _ leafs25 fuel _ _ hf (fun n hn => by have := List.all_eq_true.1 hsz n (DataW.weights_mem_each (j := 2) (t := 25) rfl rfl n hn); simpa using this)
  obtain ⟨X2_0, cs2_0, rfl, lf2_0⟩ := lf2.int Try.underlying3
  obtain ⟨rr2_1, aa2_1, cc2_1, X2_1, ii2_1, cs2_1, hr2_1, hb2_1, rfl, lf2_1, hl2_1⟩ := lf2_0.bytes Try.underlying23
  obtain ⟨rr2_2, aa2_2, cc2_2, X2_2, ii2_2, cs2_2, hr2_2, hb2_2, rfl, lf2_2, hl2_2⟩ := lf2_1.bytes Try.underlying23
  cases lf2_2
  unfold AggP at ag2
  subst ag2
  clear hA0
  have hst := St.init W.heap.size W (Nat.le_refl _)
  have hro : roL [] := roL.nil
  obtain ⟨C0, X0, hst, hro, hV0, hQ0⟩ := hrow0.lv hst hro (opens25 W) lifts25 rfl
  obtain ⟨hst, hro⟩ := hst.roL hro [rr1_1, rr1_2] (fun r hr => by (simp only [List.mem_cons, List.not_mem_nil, or_false] at hr; rcases hr with rfl | rfl <;> assumption))
  replace hV0 := hV0.app [rr1_1, rr1_2]
  obtain ⟨ij1_1, hb1_1⟩ := Bx.inSt hst hb1_1 (by simp)
  obtain ⟨ij1_2, hb1_2⟩ := Bx.inSt hst hb1_2 (by simp)
  obtain ⟨hst, hro⟩ := hst.roL hro [rr2_1, rr2_2] (fun r hr => by (simp only [List.mem_cons, List.not_mem_nil, or_false] at hr; rcases hr with rfl | rfl <;> assumption))
  replace hV0 := hV0.app [rr2_1, rr2_2]
  replace hb1_1 := hb1_1.app [rr2_1, rr2_2]
  replace hb1_2 := hb1_2.app [rr2_1, rr2_2]
  obtain ⟨ij2_1, hb2_1⟩ := Bx.inSt hst hb2_1 (by simp)
  obtain ⟨ij2_2, hb2_2⟩ := Bx.inSt hst hb2_2 (by simp)
  have hR : lethelaw11_PackFinds X0 X1_0 X1_1 X1_2 X2_0 X2_1 X2_2 true := packFinds_true X0 X1_0 X1_1 X1_2 X2_0 X2_1 X2_2
  refine (lethelaw11_PackFinds_ok (r := true) hV0.ofAt hb1_1 hb1_2 hb2_1 hb2_2 hR hst).mono fun e W' ⟨he, hs⟩ => ?_
  have bel := hs.below
  subst he
  exact ⟨_, rfl, _, _, _, [], _, [], hW', trodAll_mk1 (shut_bool Try.underlying4 _), (trodAll_cons_mk (Below.trod laidOut (by kernel_rfl) (of_decide_eq_true (by kernel_rfl)) k0 bel lt0) (trodAll_cons_mk (Below.trod laidOut (by kernel_rfl) (of_decide_eq_true (by kernel_rfl)) k1 bel lt1) (trodAll_cons_mk (Below.trod laidOut (by kernel_rfl) (of_decide_eq_true (by kernel_rfl)) k2 bel lt2) trodAll_mk0))), rfl, bel.frame _, fun h => by cases h⟩
@[reducible] def wA : Array Value := #[Value.slice none 0 0, Value.agg #[Value.int .i64 0, Value.slice none 0 0, Value.slice none 0 0], Value.agg #[Value.int .i64 0, Value.slice none 0 0, Value.slice none 0 0]]
set_option maxRecDepth 100000 in
theorem lifted (os : Os) (started : os.Started) (H : Type) (enc : TypeId × Value → H) :
    ReturnsInHanded {} Try.checked os 3 .any (Rows.packFindsSpec.pre6 enc Try.prog Try.f3 Rows.packFindsRow.domain false) (Rows.packFindsSpec.post enc Try.prog Try.f3 false true false false) := by
  refine returnsInHanded_of_change_sized (C := Try.checked) own started (by kernel_rfl) Try.func3
    (ChangeSpec.witness6 (enc := enc) (C := Try.checked) false ⟨#[], wA, []⟩ 8 (by kernel_rfl) (by kernel_rfl) (by kernel_rfl) (by kernel_rfl)) ?_
  intro W base args ds gs before hval0 hW hcnd hsz _
  exact contract H enc W base args ds gs before hval0 hW hsz
theorem over : Rows.packFindsRow.holds Try.pinned (OpenSpec.ofChange Rows.packFindsSpec) :=
  OpenClaim.holds_of_wide 3 Try.f3 rfl rfl rfl rfl rfl rfl rfl ⟨rfl, rfl, rfl, rfl, rfl⟩ rfl rfl rfl rfl rfl (by kernel_rfl) Try.func3 (by kernel_rfl)
    (of_decide_eq_true (by kernel_rfl)) (by unfold Func.isWrapper; first | (rw [if_pos (by decide +kernel)]; kernel_rfl) | (rw [if_neg (by decide +kernel)]; exact ⟨rfl, rfl⟩))
    (fun os started H enc _ => lifted os started H enc)
end Go.Proofs.Ytbkgblhmlenocaa.packFinds
namespace Go.Proofs.Ytbkgblhmlenocaa
theorem packFinds_holds : Rows.PackFindsSaid := packFinds.over
end Go.Proofs.Ytbkgblhmlenocaa
