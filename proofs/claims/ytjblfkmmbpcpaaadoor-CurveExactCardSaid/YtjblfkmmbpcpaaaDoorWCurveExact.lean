/-
  WALKS of the package's functions, printed by this session's own program (auto.py).
-/
import Derived.Test.YtjblfkmmbpcpaaaDoorProg
import Derived.Test.YtjblfkmmbpcpaaaDoorEb
import Derived.Test.YtjblfkmmbpcpaaaDoorRCurveExact
import Derived.Test.YtjblfkmmbpcpaaaDoorEls
import Derived.Test.YtjblfkmmbpcpaaaDoorWLaw07
namespace Go.Proofs.YtjblfkmmbpcpaaaDoor
set_option linter.unusedSimpArgs false
set_option linter.unusedVariables false
set_option linter.unusedSectionVars false
open Go Go.LW
theorem FCurveExact.call23 : callB Tryd.prog 23 = true := by kernel_rfl
theorem FCurveExact.isl65 : ∃ el, Tryd.prog.underlying 65 = some (.slice el) := ⟨69, by kernel_rfl⟩
theorem FCurveExact.sl65 : slB Tryd.prog 65 66 = true := by kernel_rfl
theorem FCurveExact.agg69 : aggT Tryd.prog 69 66 = true := by kernel_rfl
theorem FCurveExact.call29 : callB Tryd.prog 29 = true := by kernel_rfl

set_option maxRecDepth 8000 in
set_option maxHeartbeats 1000000 in
theorem lethelaw07_CurveExact_ok {B : Nat} {w0 w : World} {L : List Rg} {iG0 : Nat} (hG0 : L[iG0]? = some ⟨some 0, 0, 5, fun q => VU .u64 (twice5 q), false⟩) {script1 : List (Int × (Nat → BitVec 8) × (Nat → BitVec 8) × (List Byte))} {ascript1 : Option Addr} {nscript1 cscript1 iscript1 : Nat} (hscript1 : LV D69 L iscript1 ascript1 nscript1 cscript1 script1) {r : Bool} (hR : lethelaw07_CurveExact script1 r) (HST : St B w0 (L) w) :
    Calls Tryd.prog 10 #[.slice ascript1 nscript1 cscript1] w fun e w' => e = .returned (.bool r) ∧ St B w0 (L) w' := by
  refine W.enter 25 Tryd.func10 rfl rfl rfl ?_
  unfold lethelaw07_CurveExact at hR
  have escript1 := hscript1.hl; subst escript1
  refine W.seq_k fun K2 hK2 => ?_
  refine W.regionT [(0, true)] (by kernel_rfl) ?_
  refine Plan.assign_bool rfl rfl ?_
  refine Plan.nil ?_
  refine hK2 _ _ ?_; clear hK2
  refine W.seq_k fun K3 hK3 => ?_
  refine W.regionT [(0, false), (1, true)] (by kernel_rfl) ?_
  obtain ⟨x_5, hr4, hR⟩ := hR
  refine Plan.call (vs := []) rfl FCurveExact.call23 rfl (lethelaw07_fixed_ok (iG0 := iG0 + 0) hG0 hr4 HST) ?_
  rintro _ w6 ⟨rfl, h6⟩
  refine ⟨_, rfl, .inl ⟨PIn.keep PIn.nil h6, ?_⟩⟩
  refine Plan.assign_bool rfl rfl ?_
  refine Plan.nil ?_
  refine hK3 _ _ ?_; clear hK3
  refine W.seq_k fun K7 hK7 => ?_
  refine W.seq_k fun K8 hK8 => ?_
  refine W.regionT [(0, true)] (by kernel_rfl) ?_
  refine Plan.assign_int rfl rfl ?_
  refine Plan.nil ?_
  refine hK8 _ _ ?_; clear hK8
  obtain ⟨ok43, hI44, hR044⟩ := hR
  refine W.cutN (fun e w => ∃ y_ok43 : Bool, ok43 = y_ok43 ∧ EnvHas e [(3, .bool y_ok43)] ∧ St B w0 (L) w) ?_ ?_
  ·
    refine W.block ?_
    refine W.iter hI44 (fun (s44 : (Bool × Nat)) e w => EnvHas e [(0, .slice ascript1 script1.length cscript1), (3, .bool s44.1), (4, VN s44.2)] ∧ St B w0 (L) w) ⟨(EnvHas.cons rfl (EnvHas.cons rfl (EnvHas.cons rfl EnvHas.nil))), h6⟩ ?_
    rintro ⟨ok41, i_42⟩ o44 hR hx44 ev45 wl45 ⟨he45, h45⟩
    obtain ⟨ev45, rfl⟩ := he45.open
    unfold lethelaw07_CurveExact_l0 at hR
    refine W.seq_k fun K46 hK46 => ?_
    refine W.seq_k fun K51 hK51 => ?_
    refine W.regionT [(0, true), (1, true), (2, true), (3, true), (4, true), (5, true), (6, true), (7, true), (8, true), (9, true), (10, true)] (by kernel_rfl) ?_
    by_cases hc52 : ok41 = true
    ·
      replace hR := ifT hR hc52
      refine Plan.move_bool (b := true) rfl (congrArg Value.bool hc52) ?_
      refine Plan.move_bool rfl rfl ?_
      refine Plan.move_int rfl rfl ?_
      refine Plan.move_slice rfl rfl ?_
      refine Plan.len FCurveExact.isl65 rfl rfl ?_
      by_cases hc53 : i_42 < script1.length
      ·
        replace hR := ifT hR hc53
        refine Plan.cmpV (a := (((i_42 : Nat) : Int) : Int)) (b := (((script1.length : Nat) : Int) : Int)) (p := i_42 < script1.length) (v := true) rfl rfl rfl rfl icmp_ltN (decide_eq_true hc53) ?_
        refine Plan.pickTb rfl rfl rfl ?_
        refine Plan.move_bool rfl rfl ?_
        refine Plan.move_int rfl rfl ?_
        refine Plan.cmpP (a := (((i_42 : Nat) : Int) : Int)) (b := (6 : Int)) (p := i_42 < 6) rfl rfl rfl rfl icmp_ltN ?_
        refine Plan.pickTb rfl rfl rfl ?_
        refine Plan.nil ?_
        refine hK51 _ _ ?_; clear hK51
        by_cases hc54 : i_42 < 6
        ·
          replace hR := ifT hR hc54
          refine W.condT (congrArg Value.bool (decide_eq_true hc54)) ?_
          refine W.skip ?_
          refine hK46 _ _ ?_; clear hK46
          refine W.seq_k fun K55 hK55 => ?_
          refine W.block ?_
          refine W.regionT [(0, true), (1, true), (2, true), (3, true), (4, false), (5, true)] (by kernel_rfl) ?_
          refine Plan.move_slice rfl rfl ?_
          refine Plan.move_int rfl rfl ?_
          obtain ⟨hc56, hR⟩ := hR
          refine Plan.idxLVS (D := D69) (j := i_42) h45 hscript1 FCurveExact.sl65 rfl rfl rfl hc56 ?_
          refine Plan.loadLVd (D := D69) (X := script1) (j := i_42) (sz := 66) [] h45 ((0 : Int), (fun _ => 0#8), (fun _ => 0#8), ([] : List Byte)) hscript1 rfl rfl hc56 rfl FCurveExact.agg69 fun b57 r57 hs57 hr57 => ?_
          obtain ⟨i57_3, hv57_3⟩ := hs57
          obtain ⟨x_59, hr58, hR⟩ := hR
          refine Plan.call (vs := [AG [(1, fun _ => .int .i64 ((script1.getD i_42 ((0 : Int), (fun _ => 0#8), (fun _ => 0#8), ([] : List Byte))).1)), (32, fun q => VU .u8 (((script1.getD i_42 ((0 : Int), (fun _ => 0#8), (fun _ => 0#8), ([] : List Byte))).2.1) q)), (32, fun q => VU .u8 (((script1.getD i_42 ((0 : Int), (fun _ => 0#8), (fun _ => 0#8), ([] : List Byte))).2.2.1) q)), (1, fun _ => .slice ((b57).1) (((script1.getD i_42 ((0 : Int), (fun _ => 0#8), (fun _ => 0#8), ([] : List Byte))).2.2.2).length) ((b57).2))]]) rfl FCurveExact.call29 rfl (lethelaw07_plays_ok (iG0 := iG0 + 0) hG0 hv57_3 hr58 h45) ?_
          rintro _ w60 ⟨rfl, h60⟩
          refine ⟨_, rfl, .inr ⟨rfl, ?_⟩⟩
          refine Plan.assign_bool rfl rfl ?_
          refine Plan.nil ?_
          refine blockR_norm ?_
          refine hK55 _ _ ?_; clear hK55
          refine W.regionT [(0, true), (1, true), (2, true)] (by kernel_rfl) ?_
          refine Plan.move_int rfl rfl ?_
          refine Plan.addN (a := i_42) (b := 1) rfl rfl rfl (by omega) ?_
          refine Plan.assign_int rfl rfl ?_
          refine Plan.nil ?_
          exact iterR_norm ⟨_, hR, (EnvHas.cons rfl (EnvHas.cons rfl (EnvHas.cons rfl EnvHas.nil))), h60⟩
        ·
          replace hR := ifF hR hc54
          refine W.condF (congrArg Value.bool (decide_eq_false hc54)) ?_
          refine W.exit (thenR_exit (iterR_exit (blockR_here ?_)))
          exact ⟨ok41, (hx44 _ hR).symm, (EnvHas.cons rfl EnvHas.nil), h45⟩
      ·
        replace hR := ifF hR hc53
        refine Plan.cmpV (a := (((i_42 : Nat) : Int) : Int)) (b := (((script1.length : Nat) : Int) : Int)) (p := i_42 < script1.length) (v := false) rfl rfl rfl rfl icmp_ltN (decide_eq_false hc53) ?_
        refine Plan.pickTb rfl rfl rfl ?_
        refine Plan.move_bool rfl rfl ?_
        refine Plan.passed rfl ?_
        refine Plan.passed rfl ?_
        refine Plan.pickFb rfl rfl rfl ?_
        refine Plan.nil ?_
        refine hK51 _ _ ?_; clear hK51
        refine W.condF rfl ?_
        refine W.exit (thenR_exit (iterR_exit (blockR_here ?_)))
        exact ⟨ok41, (hx44 _ hR).symm, (EnvHas.cons rfl EnvHas.nil), h45⟩
    ·
      replace hR := ifF hR hc52
      refine Plan.move_bool (b := false) rfl (congrArg Value.bool (Bool.eq_false_iff.2 hc52)) ?_
      refine Plan.move_bool rfl rfl ?_
      refine Plan.passed rfl ?_
      refine Plan.passed rfl ?_
      refine Plan.passed rfl ?_
      refine Plan.passed rfl ?_
      refine Plan.pickFb rfl rfl rfl ?_
      refine Plan.move_bool rfl rfl ?_
      refine Plan.passed rfl ?_
      refine Plan.passed rfl ?_
      refine Plan.pickFb rfl rfl rfl ?_
      refine Plan.nil ?_
      refine hK51 _ _ ?_; clear hK51
      refine W.condF rfl ?_
      refine W.exit (thenR_exit (iterR_exit (blockR_here ?_)))
      exact ⟨ok41, (hx44 _ hR).symm, (EnvHas.cons rfl EnvHas.nil), h45⟩
  ·
    rintro ev61 wl61 ⟨y_ok43, hy61, he61, h61⟩
    obtain ⟨ev61, rfl⟩ := he61.open
    subst hy61
    replace hR := hR044
    refine hK7 _ _ ?_; clear hK7
    refine W.seq_k fun K62 hK62 => ?_
    refine W.regionT [(0, true), (1, true)] (by kernel_rfl) ?_
    refine Plan.move_bool rfl rfl ?_
    refine Plan.assign_bool rfl rfl ?_
    refine Plan.nil ?_
    refine hK62 _ _ ?_; clear hK62
    refine W.ret (finR_ret ?_)
    subst r
    refine RetOk.mk (.tmp_bool rfl .nil) ?_
    exact ⟨rfl, h61⟩

end Go.Proofs.YtjblfkmmbpcpaaaDoor
