/-
  WALKS of the package's functions, printed by this session's own program (auto.py).
-/
import Derived.Test.YtbkgblhmlenocaaProg
import Derived.Test.YtbkgblhmlenocaaEd
import Derived.Test.YtbkgblhmlenocaaRCmp
import Derived.Test.YtbkgblhmlenocaaEls
namespace Go.Proofs.Ytbkgblhmlenocaa
set_option linter.unusedSimpArgs false
set_option linter.unusedVariables false
set_option linter.unusedSectionVars false
open Go Go.LW
theorem FCmp.call83 : callB Try.prog 83 = true := by kernel_rfl

set_option maxRecDepth 8000 in
set_option maxHeartbeats 1000000 in
theorem cmp_isNaN_int_ok {B : Nat} {w0 : Base} {w : World} {L : List Rg} {x_1 : Int} {r : Bool} (hR : cmp_isNaN_int x_1 r) (HST : St B w0 (L) w) :
    Calls Try.prog 83 #[.int .i64 x_1] w fun e w' => e = .returned (.bool r) ∧ St B w0 (L) w' := by
  refine W.enter 6 Try.func83 rfl rfl rfl ?_
  unfold cmp_isNaN_int at hR
  refine W.seq_k fun K2 hK2 => ?_
  refine W.regionT [(0, true)] (by kernel_rfl) ?_
  refine Plan.assign_bool rfl rfl ?_
  refine Plan.nil ?_
  refine hK2 _ _ ?_; clear hK2
  refine W.seq_k fun K3 hK3 => ?_
  refine W.regionT [(0, true), (1, true), (2, true), (3, true)] (by kernel_rfl) ?_
  refine Plan.move_int rfl rfl ?_
  refine Plan.move_int rfl rfl ?_
  refine Plan.cmpP (a := (x_1 : Int)) (b := (x_1 : Int)) (p := x_1 ≠ x_1) rfl rfl rfl rfl icmp_ne ?_
  refine Plan.assign_bool rfl rfl ?_
  refine Plan.nil ?_
  refine hK3 _ _ ?_; clear hK3
  refine W.ret (finR_ret ?_)
  subst r
  refine RetOk.mk (.tmp_bool rfl .nil) ?_
  exact ⟨rfl, HST⟩


set_option maxRecDepth 8000 in
set_option maxHeartbeats 1000000 in
theorem cmp_Compare_int_ok {B : Nat} {w0 : Base} {w : World} {L : List Rg} {x_1 : Int} {y2 : Int} {r : Int} (hR : cmp_Compare_int x_1 y2 r) (HST : St B w0 (L) w) :
    Calls Try.prog 57 #[.int .i64 x_1, .int .i64 y2] w fun e w' => e = .returned (.int .i64 r) ∧ St B w0 (L) w' := by
  refine W.enter 20 Try.func57 rfl rfl rfl ?_
  unfold cmp_Compare_int at hR
  refine W.seq_k fun K3 hK3 => ?_
  refine W.regionT [(0, true)] (by kernel_rfl) ?_
  refine Plan.assign_int rfl rfl ?_
  refine Plan.nil ?_
  refine hK3 _ _ ?_; clear hK3
  refine W.seq_k fun K4 hK4 => ?_
  refine W.regionT [(0, true), (1, false), (2, true)] (by kernel_rfl) ?_
  refine Plan.move_int rfl rfl ?_
  obtain ⟨x_6, hr5, hR⟩ := hR
  refine Plan.call (vs := [.int .i64 x_1]) rfl FCmp.call83 rfl (cmp_isNaN_int_ok  hr5 HST) ?_
  rintro _ w7 ⟨rfl, h7⟩
  refine ⟨_, rfl, .inl ⟨PIn.keep PIn.nil h7, ?_⟩⟩
  refine Plan.assign_bool rfl rfl ?_
  refine Plan.nil ?_
  refine hK4 _ _ ?_; clear hK4
  refine W.seq_k fun K8 hK8 => ?_
  refine W.regionT [(0, true), (1, false), (2, true)] (by kernel_rfl) ?_
  refine Plan.move_int rfl rfl ?_
  obtain ⟨x_10, hr9, hR⟩ := hR
  refine Plan.call (vs := [.int .i64 y2]) rfl FCmp.call83 rfl (cmp_isNaN_int_ok  hr9 h7) ?_
  rintro _ w11 ⟨rfl, h11⟩
  refine ⟨_, rfl, .inl ⟨PIn.keep PIn.nil h11, ?_⟩⟩
  refine Plan.assign_bool rfl rfl ?_
  refine Plan.nil ?_
  refine hK8 _ _ ?_; clear hK8
  refine W.seq_k fun K12 hK12 => ?_
  refine W.seq_k fun K13 hK13 => ?_
  refine W.regionT [(0, true)] (by kernel_rfl) ?_
  refine Plan.move_bool rfl rfl ?_
  refine Plan.nil ?_
  refine hK13 _ _ ?_; clear hK13
  by_cases hc14 : x_6 = true
  ·
    replace hR := ifT hR hc14
    refine W.condT (congrArg Value.bool hc14) ?_
    refine W.seq_k fun K15 hK15 => ?_
    refine W.seq_k fun K16 hK16 => ?_
    refine W.regionT [(0, true)] (by kernel_rfl) ?_
    refine Plan.move_bool rfl rfl ?_
    refine Plan.nil ?_
    refine hK16 _ _ ?_; clear hK16
    by_cases hc17 : x_10 = true
    ·
      replace hR := ifT hR hc17
      refine W.condT (congrArg Value.bool hc17) ?_
      refine W.seq_k fun K18 hK18 => ?_
      refine W.regionT [(0, true)] (by kernel_rfl) ?_
      refine Plan.assign_int rfl rfl ?_
      refine Plan.nil ?_
      refine hK18 _ _ ?_; clear hK18
      refine W.ret (thenR_ret (thenR_ret (finR_ret ?_)))
      subst r
      refine RetOk.mk (.tmp_int rfl .nil) ?_
      exact ⟨rfl, h11⟩
    ·
      replace hR := ifF hR hc17
      refine W.condF (congrArg Value.bool (Bool.eq_false_iff.2 hc17)) ?_
      refine W.skip ?_
      refine hK15 _ _ ?_; clear hK15
      refine W.seq_k fun K19 hK19 => ?_
      refine W.regionT [(0, true)] (by kernel_rfl) ?_
      refine Plan.assign_int rfl rfl ?_
      refine Plan.nil ?_
      refine hK19 _ _ ?_; clear hK19
      refine W.ret (thenR_ret (finR_ret ?_))
      subst r
      refine RetOk.mk (.tmp_int rfl .nil) ?_
      exact ⟨rfl, h11⟩
  ·
    replace hR := ifF hR hc14
    refine W.condF (congrArg Value.bool (Bool.eq_false_iff.2 hc14)) ?_
    refine W.skip ?_
    refine hK12 _ _ ?_; clear hK12
    refine W.seq_k fun K20 hK20 => ?_
    refine W.seq_k fun K21 hK21 => ?_
    refine W.regionT [(0, true)] (by kernel_rfl) ?_
    refine Plan.move_bool rfl rfl ?_
    refine Plan.nil ?_
    refine hK21 _ _ ?_; clear hK21
    by_cases hc22 : x_10 = true
    ·
      replace hR := ifT hR hc22
      refine W.condT (congrArg Value.bool hc22) ?_
      refine W.seq_k fun K23 hK23 => ?_
      refine W.regionT [(0, true)] (by kernel_rfl) ?_
      refine Plan.assign_int rfl rfl ?_
      refine Plan.nil ?_
      refine hK23 _ _ ?_; clear hK23
      refine W.ret (thenR_ret (finR_ret ?_))
      subst r
      refine RetOk.mk (.tmp_int rfl .nil) ?_
      exact ⟨rfl, h11⟩
    ·
      replace hR := ifF hR hc22
      refine W.condF (congrArg Value.bool (Bool.eq_false_iff.2 hc22)) ?_
      refine W.skip ?_
      refine hK20 _ _ ?_; clear hK20
      refine W.seq_k fun K24 hK24 => ?_
      refine W.seq_k fun K25 hK25 => ?_
      refine W.regionT [(0, true), (1, true), (2, true)] (by kernel_rfl) ?_
      refine Plan.move_int rfl rfl ?_
      refine Plan.move_int rfl rfl ?_
      refine Plan.cmpP (a := (x_1 : Int)) (b := (y2 : Int)) (p := x_1 < y2) rfl rfl rfl rfl icmp_lt ?_
      refine Plan.nil ?_
      refine hK25 _ _ ?_; clear hK25
      by_cases hc26 : x_1 < y2
      ·
        replace hR := ifT hR hc26
        refine W.condT (congrArg Value.bool (decide_eq_true hc26)) ?_
        refine W.seq_k fun K27 hK27 => ?_
        refine W.regionT [(0, true)] (by kernel_rfl) ?_
        refine Plan.assign_int rfl rfl ?_
        refine Plan.nil ?_
        refine hK27 _ _ ?_; clear hK27
        refine W.ret (thenR_ret (finR_ret ?_))
        subst r
        refine RetOk.mk (.tmp_int rfl .nil) ?_
        exact ⟨rfl, h11⟩
      ·
        replace hR := ifF hR hc26
        refine W.condF (congrArg Value.bool (decide_eq_false hc26)) ?_
        refine W.skip ?_
        refine hK24 _ _ ?_; clear hK24
        refine W.seq_k fun K28 hK28 => ?_
        refine W.seq_k fun K29 hK29 => ?_
        refine W.regionT [(0, true), (1, true), (2, true)] (by kernel_rfl) ?_
        refine Plan.move_int rfl rfl ?_
        refine Plan.move_int rfl rfl ?_
        refine Plan.cmpP (a := (x_1 : Int)) (b := (y2 : Int)) (p := y2 < x_1) rfl rfl rfl rfl icmp_gt ?_
        refine Plan.nil ?_
        refine hK29 _ _ ?_; clear hK29
        by_cases hc30 : y2 < x_1
        ·
          replace hR := ifT hR hc30
          refine W.condT (congrArg Value.bool (decide_eq_true hc30)) ?_
          refine W.seq_k fun K31 hK31 => ?_
          refine W.regionT [(0, true)] (by kernel_rfl) ?_
          refine Plan.assign_int rfl rfl ?_
          refine Plan.nil ?_
          refine hK31 _ _ ?_; clear hK31
          refine W.ret (thenR_ret (finR_ret ?_))
          subst r
          refine RetOk.mk (.tmp_int rfl .nil) ?_
          exact ⟨rfl, h11⟩
        ·
          replace hR := ifF hR hc30
          refine W.condF (congrArg Value.bool (decide_eq_false hc30)) ?_
          refine W.skip ?_
          refine hK28 _ _ ?_; clear hK28
          refine W.seq_k fun K32 hK32 => ?_
          refine W.regionT [(0, true)] (by kernel_rfl) ?_
          refine Plan.assign_int rfl rfl ?_
          refine Plan.nil ?_
          refine hK32 _ _ ?_; clear hK32
          refine W.ret (finR_ret ?_)
          subst r
          refine RetOk.mk (.tmp_int rfl .nil) ?_
          exact ⟨rfl, h11⟩

end Go.Proofs.Ytbkgblhmlenocaa
