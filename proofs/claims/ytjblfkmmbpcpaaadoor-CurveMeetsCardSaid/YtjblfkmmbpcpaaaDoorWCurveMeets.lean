/-
  WALKS of the package's functions, printed by this session's own program (auto.py).
-/
import Derived.Test.YtjblfkmmbpcpaaaDoorProg
import Derived.Test.YtjblfkmmbpcpaaaDoorLx7
import Derived.Test.YtjblfkmmbpcpaaaDoorRCurveMeets
import Derived.Test.YtjblfkmmbpcpaaaDoorWCurve
import Derived.Test.YtjblfkmmbpcpaaaDoorWLaw07
namespace Go.Proofs.YtjblfkmmbpcpaaaDoor
set_option linter.unusedSimpArgs false
set_option linter.unusedVariables false
set_option linter.unusedSectionVars false
open Go Go.LW
theorem FCurveMeets.mixed : Tryd.prog.follows .mixedOrders = true := by kernel_rfl
theorem FCurveMeets.agg23 : aggT Tryd.prog 23 32 = true := by kernel_rfl
theorem FCurveMeets.z23 : zeroIs Tryd.prog 23 [(32, fun _ => VU .u8 0#8)] := zeroIs_agg (by kernel_rfl)
theorem FCurveMeets.sz23 : szT Tryd.prog 23 32 = true := by kernel_rfl
theorem FCurveMeets.arrI23 : arrIB Tryd.prog 23 32 .u8 = true := by kernel_rfl
theorem FCurveMeets.call24 : callB Tryd.prog 24 = true := by kernel_rfl
theorem FCurveMeets.call23 : callB Tryd.prog 23 = true := by kernel_rfl
theorem FCurveMeets.call25 : callB Tryd.prog 25 = true := by kernel_rfl

set_option maxRecDepth 8000 in
set_option maxHeartbeats 1000000 in
theorem lethelaw07_CurveMeets_ok {B : Nat} {w0 w : World} {L : List Rg} {iG0 : Nat} (hG0 : L[iG0]? = some ⟨some 0, 0, 5, fun q => VU .u64 (twice5 q), false⟩) {a1 : Nat → BitVec 8} {b2 : Nat → BitVec 8} {u3 : Nat → BitVec 8} {r : Bool} (hR : lethelaw07_CurveMeets a1 b2 u3 r) (HST : St B w0 (L) w) :
    Calls Tryd.prog 7 #[AG [(32, fun q => VU .u8 (a1 q))], AG [(32, fun q => VU .u8 (b2 q))], AG [(32, fun q => VU .u8 (u3 q))]] w fun e w' => e = .returned (.bool r) ∧ St B w0 (L) w' := by
  refine W.enter 31 Tryd.func7 rfl rfl rfl ?_
  unfold lethelaw07_CurveMeets at hR
  refine W.seq_k fun K4 hK4 => ?_
  refine W.regionT [(0, false), (1, false), (2, false), (3, true)] (by kernel_rfl) ?_
  refine Plan.boxA HST rfl rfl PIn.nil fun b5 w5 hb5 h5 => ?_
  simp only [rngs, Nat.zero_add, Nat.reduceAdd, List.cons_append, List.nil_append] at h5
  refine Plan.boxA h5 rfl rfl PIn.nil fun b6 w6 hb6 h6 => ?_
  simp only [rngs, Nat.zero_add, Nat.reduceAdd, List.cons_append, List.nil_append] at h6
  refine Plan.boxA h6 rfl rfl PIn.nil fun b7 w7 hb7 h7 => ?_
  simp only [rngs, Nat.zero_add, Nat.reduceAdd, List.cons_append, List.nil_append] at h7
  refine Plan.assign_bool rfl rfl ?_
  refine Plan.nil ?_
  refine hK4 _ _ ?_; clear hK4
  refine W.seq_k fun K8 hK8 => ?_
  refine W.regionX (B := B) (w0 := w0) (L := L) FCurveMeets.mixed [⟨5, 7, 23, [(32, fun q => VU .u8 ((fun _ => 0#8) q))]⟩] [(0, true), (1, true), (2, true)] [[(3, false)], [(4, false)]] [(6, false)] (by kernel_rfl) (by kernel_rfl) (.cons FCurveMeets.z23 .nil) ?_
  have h9 := h7.drew
  refine Plan.loadA1 h9 2 rfl rfl rfl FCurveMeets.agg23 ?_
  refine Plan.loadA1 h9 1 rfl rfl rfl FCurveMeets.agg23 ?_
  refine Plan.loadA1 h9 0 rfl rfl rfl FCurveMeets.agg23 ?_
  refine Plan.nil ⟨[_, _, _], h9, (PIn.cons 0 rfl (PIn.cons 1 rfl (PIn.cons 2 rfl PIn.nil))), ?_⟩
  refine PX.step fun C10 z10 w10 h10 => ?_
  simp only [List.cons_append, List.nil_append] at h10
  obtain ⟨x_12, hr11, hR⟩ := hR
  refine Plan.call (vs := [AG [(32, fun q => VU .u8 (b2 q))], AG [(32, fun q => VU .u8 (u3 q))]]) rfl FCurveMeets.call24 rfl (curve_Times_ok (iG0 := (iG0 + C10.length) + 3) (flget hG0 C10) hr11 h10) ?_
  rintro _ w13 ⟨rfl, h13⟩
  refine ⟨_, rfl, .inl ⟨PIn.keep (PIn.cons 0 rfl (PIn.cons 1 rfl (PIn.cons 2 rfl PIn.nil))) h13, ?_⟩⟩
  refine Plan.nil ⟨[_, _, _], h13, (PIn.cons 0 rfl (PIn.cons 1 rfl (PIn.cons 2 rfl PIn.nil))), ?_⟩
  refine PX.step fun C14 z14 w14 h14 => ?_
  simp only [List.cons_append, List.nil_append] at h14
  obtain ⟨x_16, hr15, hR⟩ := hR
  refine Plan.call (vs := [AG [(32, fun q => VU .u8 (a1 q))], AG [(32, fun q => VU .u8 (x_12 q))]]) rfl FCurveMeets.call24 rfl (curve_Times_ok (iG0 := (iG0 + C14.length) + 3) (flget hG0 C14) hr15 h14) ?_
  rintro _ w17 ⟨rfl, h17⟩
  refine ⟨_, rfl, .inl ⟨PIn.keep (PIn.cons 0 rfl (PIn.cons 1 rfl (PIn.cons 2 rfl PIn.nil))) h17, ?_⟩⟩
  refine Plan.nil ⟨[_, _, _], h17, (PIn.cons 0 rfl (PIn.cons 1 rfl (PIn.cons 2 rfl PIn.nil))), ?_⟩
  refine PX.done (KE.step fun b18_5 => (KE.fin fun w18 h18 => ?_))
  simp only [rngs, Nat.zero_add, Nat.reduceAdd, List.cons_append, List.nil_append] at h18
  refine Plan.storeA (f' := fun q => VU .u8 (x_16 q)) h18 3 rfl rfl rfl rfl (fun _ _ => rfl) FCurveMeets.sz23 rfl fun w19 h19 => ?_
  simp only [List.cons_append, List.nil_append, List.set_cons_zero, List.set_cons_succ] at h19
  refine Plan.nil ?_
  refine hK8 _ _ ?_; clear hK8
  refine W.seq_k fun K20 hK20 => ?_
  refine W.regionX (B := B) (w0 := w0) (L := L) FCurveMeets.mixed [⟨5, 8, 23, [(32, fun q => VU .u8 ((fun _ => 0#8) q))]⟩] [(0, true), (1, true), (2, true)] [[(3, false)], [(4, false)]] [(6, false)] (by kernel_rfl) (by kernel_rfl) (.cons FCurveMeets.z23 .nil) ?_
  have h21 := h19.drew
  refine Plan.loadA1 h21 1 rfl rfl rfl FCurveMeets.agg23 ?_
  refine Plan.loadA1 h21 2 rfl rfl rfl FCurveMeets.agg23 ?_
  refine Plan.loadA1 h21 0 rfl rfl rfl FCurveMeets.agg23 ?_
  refine Plan.nil ⟨[_, _, _, _], h21, (PIn.cons 0 rfl (PIn.cons 2 rfl (PIn.cons 1 rfl PIn.nil))), ?_⟩
  refine PX.step fun C22 z22 w22 h22 => ?_
  simp only [List.cons_append, List.nil_append] at h22
  obtain ⟨x_24, hr23, hR⟩ := hR
  refine Plan.call (vs := [AG [(32, fun q => VU .u8 (a1 q))], AG [(32, fun q => VU .u8 (u3 q))]]) rfl FCurveMeets.call24 rfl (curve_Times_ok (iG0 := (iG0 + C22.length) + 4) (flget hG0 C22) hr23 h22) ?_
  rintro _ w25 ⟨rfl, h25⟩
  refine ⟨_, rfl, .inl ⟨PIn.keep (PIn.cons 0 rfl (PIn.cons 2 rfl (PIn.cons 1 rfl PIn.nil))) h25, ?_⟩⟩
  refine Plan.nil ⟨[_, _, _, _], h25, (PIn.cons 0 rfl (PIn.cons 2 rfl (PIn.cons 1 rfl PIn.nil))), ?_⟩
  refine PX.step fun C26 z26 w26 h26 => ?_
  simp only [List.cons_append, List.nil_append] at h26
  obtain ⟨x_28, hr27, hR⟩ := hR
  refine Plan.call (vs := [AG [(32, fun q => VU .u8 (b2 q))], AG [(32, fun q => VU .u8 (x_24 q))]]) rfl FCurveMeets.call24 rfl (curve_Times_ok (iG0 := (iG0 + C26.length) + 4) (flget hG0 C26) hr27 h26) ?_
  rintro _ w29 ⟨rfl, h29⟩
  refine ⟨_, rfl, .inl ⟨PIn.keep (PIn.cons 0 rfl (PIn.cons 2 rfl (PIn.cons 1 rfl PIn.nil))) h29, ?_⟩⟩
  refine Plan.nil ⟨[_, _, _, _], h29, (PIn.cons 0 rfl (PIn.cons 2 rfl (PIn.cons 1 rfl PIn.nil))), ?_⟩
  refine PX.done (KE.step fun b30_5 => (KE.fin fun w30 h30 => ?_))
  simp only [rngs, Nat.zero_add, Nat.reduceAdd, List.cons_append, List.nil_append] at h30
  refine Plan.storeA (f' := fun q => VU .u8 (x_28 q)) h30 4 rfl rfl rfl rfl (fun _ _ => rfl) FCurveMeets.sz23 rfl fun w31 h31 => ?_
  simp only [List.cons_append, List.nil_append, List.set_cons_zero, List.set_cons_succ] at h31
  refine Plan.nil ?_
  refine hK20 _ _ ?_; clear hK20
  refine W.seq_k fun K32 hK32 => ?_
  refine W.regionT [(0, false), (1, true)] (by kernel_rfl) ?_
  obtain ⟨x_34, hr33, hR⟩ := hR
  refine Plan.call (vs := []) rfl FCurveMeets.call23 rfl (lethelaw07_fixed_ok (iG0 := iG0 + 5) hG0 hr33 h31) ?_
  rintro _ w35 ⟨rfl, h35⟩
  refine ⟨_, rfl, .inl ⟨PIn.keep PIn.nil h35, ?_⟩⟩
  refine Plan.assign_bool rfl rfl ?_
  refine Plan.nil ?_
  refine hK32 _ _ ?_; clear hK32
  refine W.seq_k fun K36 hK36 => ?_
  refine W.regionT [(0, true), (1, true), (2, true), (3, true), (4, true), (5, true), (6, true), (7, true), (8, false), (9, true), (10, true)] (by kernel_rfl) ?_
  by_cases hc37 : x_34 = true
  ·
    replace hR := ifT hR hc37
    refine Plan.move_bool (b := true) rfl (congrArg Value.bool hc37) ?_
    refine Plan.move_bool rfl rfl ?_
    refine Plan.loadA1 h35 3 rfl rfl rfl FCurveMeets.agg23 ?_
    refine Plan.loadA1 h35 4 rfl rfl rfl FCurveMeets.agg23 ?_
    by_cases hc38 : (eqB 32 x_16 x_28) = true
    ·
      replace hR := ifT hR hc38
      refine Plan.eqArrV (b := true) FCurveMeets.arrI23 rfl rfl rfl hc38 ?_
      refine Plan.pickTb rfl rfl rfl ?_
      refine Plan.move_bool rfl rfl ?_
      refine Plan.loadA1 h35 3 rfl rfl rfl FCurveMeets.agg23 ?_
      obtain ⟨x_40, hr39, hR⟩ := hR
      refine Plan.call (vs := [AG [(32, fun q => VU .u8 (x_16 q))]]) rfl FCurveMeets.call25 rfl (lethelaw07_reduced_ok  hr39 h35) ?_
      rintro _ w41 ⟨rfl, h41⟩
      refine ⟨_, rfl, .inl ⟨PIn.keep (PIn.cons 3 rfl (PIn.cons 4 rfl (PIn.cons 3 rfl PIn.nil))) h41, ?_⟩⟩
      refine Plan.pickTb rfl rfl rfl ?_
      refine Plan.assign_bool rfl rfl ?_
      refine Plan.nil ?_
      refine hK36 _ _ ?_; clear hK36
      refine W.ret (finR_ret ?_)
      have h42 := St.pickT (C := [_, _, _, _, _]) h41 [] (by decide)
      simp only [pick, List.filterMap_cons, List.filterMap_nil, List.getElem?_cons_zero, List.getElem?_cons_succ, List.cons_append, List.nil_append] at h42
      subst r
      refine RetOk.mk (.tmp_bool rfl .nil) ?_
      exact ⟨rfl, h42⟩
    ·
      replace hR := ifF hR hc38
      refine Plan.eqArrV (b := false) FCurveMeets.arrI23 rfl rfl rfl (Bool.eq_false_iff.2 hc38) ?_
      refine Plan.pickTb rfl rfl rfl ?_
      refine Plan.move_bool rfl rfl ?_
      refine Plan.passed rfl ?_
      refine Plan.passed rfl ?_
      refine Plan.pickFb rfl rfl rfl ?_
      refine Plan.assign_bool rfl rfl ?_
      refine Plan.nil ?_
      refine hK36 _ _ ?_; clear hK36
      refine W.ret (finR_ret ?_)
      have h43 := St.pickT (C := [_, _, _, _, _]) h35 [] (by decide)
      simp only [pick, List.filterMap_cons, List.filterMap_nil, List.getElem?_cons_zero, List.getElem?_cons_succ, List.cons_append, List.nil_append] at h43
      subst r
      refine RetOk.mk (.tmp_bool rfl .nil) ?_
      exact ⟨rfl, h43⟩
  ·
    replace hR := ifF hR hc37
    refine Plan.move_bool (b := false) rfl (congrArg Value.bool (Bool.eq_false_iff.2 hc37)) ?_
    refine Plan.move_bool rfl rfl ?_
    refine Plan.passed rfl ?_
    refine Plan.passed rfl ?_
    refine Plan.passed rfl ?_
    refine Plan.pickFb rfl rfl rfl ?_
    refine Plan.move_bool rfl rfl ?_
    refine Plan.passed rfl ?_
    refine Plan.passed rfl ?_
    refine Plan.pickFb rfl rfl rfl ?_
    refine Plan.assign_bool rfl rfl ?_
    refine Plan.nil ?_
    refine hK36 _ _ ?_; clear hK36
    refine W.ret (finR_ret ?_)
    have h44 := St.pickT (C := [_, _, _, _, _]) h35 [] (by decide)
    simp only [pick, List.filterMap_cons, List.filterMap_nil, List.getElem?_cons_zero, List.getElem?_cons_succ, List.cons_append, List.nil_append] at h44
    subst r
    refine RetOk.mk (.tmp_bool rfl .nil) ?_
    exact ⟨rfl, h44⟩

end Go.Proofs.YtjblfkmmbpcpaaaDoor
