/-
 WALKS of the package's functions, printed by this session's own program (auto.py).
-/
import Derived.Test.YtbkgblhmlenocaaProg
import Derived.Test.YtbkgblhmlenocaaEd
import Derived.Test.YtbkgblhmlenocaaRCmp
import Derived.Test.YtbkgblhmlenocaaEls
namespace Go.Proofs.Ytbkgblhmlenocaa
set_option linter.unusedSimpArgs false
set_option linter.unusedVariables false
set_option linter.unusedSectionVars false
set_option maxRecDepth 8000
set_option maxHeartbeats 1000000
open Go Go.LW
theorem FCmp.call83 : callB Try.prog 83 = true := by kernel_rfl
theorem cmp_isNaN_int_ok {B : Nat} {w0 : Base} {w : World} {L : List Rg} {x_1 : Int} {r : Bool} (hR : cmp_isNaN_int x_1 r) (HST : St B w0 (L) w) :
  Calls Try.prog 83 #[.int .i64 x_1] w fun e w' => e = .returned (.bool r) ∧ St B w0 (L) w' := by
 refine W.enter 6 Try.func83 rfl rfl rfl ?_
 unfold cmp_isNaN_int at hR
 refine W.seq_k fun _ k2 => W.regionT [(0, true)] (by kernel_rfl) ?_
 refine Plan.assign_bool rfl rfl <| Plan.nil (k2 _ _ ?_); clear k2
 refine W.seq_k fun _ k3 => W.regionT [(0, true), (1, true), (2, true), (3, true)] (by kernel_rfl) ?_
 refine Plan.move_int rfl rfl <| Plan.move_int rfl rfl <| Plan.cmpP (a := (x_1 : Int)) (b := (x_1 : Int)) (p := x_1 ≠ x_1) rfl rfl rfl rfl icmp_ne <| Plan.assign_bool rfl rfl <| Plan.nil (k3 _ _ ?_); clear k3
 refine W.ret (finR_ret ?_)
 subst r
 refine RetOk.mk (.tmp_bool rfl .nil) ?_
 exact ⟨rfl, HST⟩
theorem cmp_Compare_int_ok {B : Nat} {w0 : Base} {w : World} {L : List Rg} {x_1 : Int} {y2 : Int} {r : Int} (hR : cmp_Compare_int x_1 y2 r) (HST : St B w0 (L) w) :
  Calls Try.prog 57 #[.int .i64 x_1, .int .i64 y2] w fun e w' => e = .returned (.int .i64 r) ∧ St B w0 (L) w' := by
 refine W.enter 20 Try.func57 rfl rfl rfl ?_
 unfold cmp_Compare_int at hR
 refine W.seq_k fun _ k3 => W.regionT [(0, true)] (by kernel_rfl) ?_
 refine Plan.assign_int rfl rfl <| Plan.nil (k3 _ _ ?_); clear k3
 refine W.seq_k fun _ k4 => W.regionT [(0, true), (1, false), (2, true)] (by kernel_rfl) ?_
 refine Plan.move_int rfl rfl ?_
 obtain ⟨x_6, hr5, hR⟩ := hR
 refine Plan.call (vs := [.int .i64 x_1]) rfl FCmp.call83 rfl (cmp_isNaN_int_ok  hr5 HST) ?_
 rintro _ w7 ⟨rfl, h7⟩
 refine ⟨_, rfl, .inl ⟨PIn.keep (by exact PIn.nil) h7, ?_⟩⟩
 refine Plan.assign_bool rfl rfl <| Plan.nil (k4 _ _ ?_); clear k4
 refine W.seq_k fun _ k8 => W.regionT [(0, true), (1, false), (2, true)] (by kernel_rfl) ?_
 refine Plan.move_int rfl rfl ?_
 obtain ⟨x_10, hr9, hR⟩ := hR
 refine Plan.call (vs := [.int .i64 y2]) rfl FCmp.call83 rfl (cmp_isNaN_int_ok  hr9 h7) ?_
 rintro _ w11 ⟨rfl, h11⟩
 refine ⟨_, rfl, .inl ⟨PIn.keep (by exact PIn.nil) h11, ?_⟩⟩
 refine Plan.assign_bool rfl rfl <| Plan.nil (k8 _ _ ?_); clear k8
 refine W.seq_k fun _ k12 => W.seq_k fun _ k13 => ?_
 refine W.regionT [(0, true)] (by kernel_rfl) ?_
 refine Plan.move_bool rfl rfl <| Plan.nil (k13 _ _ ?_); clear k13
 by_cases hc14 : x_6 = true
 ·
  replace hR := ifT hR hc14
  refine W.condT (congrArg Value.bool hc14) ?_
  refine W.seq_k fun _ k15 => W.seq_k fun _ k16 => ?_
  refine W.regionT [(0, true)] (by kernel_rfl) ?_
  refine Plan.move_bool rfl rfl <| Plan.nil (k16 _ _ ?_); clear k16
  by_cases hc17 : x_10 = true
  ·
   replace hR := ifT hR hc17
   refine W.condT (congrArg Value.bool hc17) ?_
   refine W.seq_k fun _ k18 => W.regionT [(0, true)] (by kernel_rfl) ?_
   refine Plan.assign_int rfl rfl <| Plan.nil (k18 _ _ ?_); clear k18
   refine W.ret (thenR_ret (thenR_ret (finR_ret ?_)))
   subst r
   refine RetOk.mk (.tmp_int rfl .nil) ?_
   exact ⟨rfl, h11⟩
  ·
   replace hR := ifF hR hc17
   refine W.condF (congrArg Value.bool (Bool.eq_false_iff.2 hc17)) ?_
   refine W.skip ?_
   refine k15 _ _ ?_; clear k15
   refine W.seq_k fun _ k19 => W.regionT [(0, true)] (by kernel_rfl) ?_
   refine Plan.assign_int rfl rfl <| Plan.nil (k19 _ _ ?_); clear k19
   refine W.ret (thenR_ret (finR_ret ?_))
   subst r
   refine RetOk.mk (.tmp_int rfl .nil) ?_
   exact ⟨rfl, h11⟩
 ·
  replace hR := ifF hR hc14
  refine W.condF (congrArg Value.bool (Bool.eq_false_iff.2 hc14)) ?_
  refine W.skip ?_
  refine k12 _ _ ?_; clear k12
  refine W.seq_k fun _ k20 => W.seq_k fun _ k21 => ?_
  refine W.regionT [(0, true)] (by kernel_rfl) ?_
  refine Plan.move_bool rfl rfl <| Plan.nil (k21 _ _ ?_); clear k21
  by_cases hc22 : x_10 = true
  ·
   replace hR := ifT hR hc22
   refine W.condT (congrArg Value.bool hc22) ?_
   refine W.seq_k fun _ k23 => W.regionT [(0, true)] (by kernel_rfl) ?_
   refine Plan.assign_int rfl rfl <| Plan.nil (k23 _ _ ?_); clear k23
   refine W.ret (thenR_ret (finR_ret ?_))
   subst r
   refine RetOk.mk (.tmp_int rfl .nil) ?_
   exact ⟨rfl, h11⟩
  ·
   replace hR := ifF hR hc22
   refine W.condF (congrArg Value.bool (Bool.eq_false_iff.2 hc22)) ?_
   refine W.skip ?_
   refine k20 _ _ ?_; clear k20
   refine W.seq_k fun _ k24 => W.seq_k fun _ k25 => ?_
   refine W.regionT [(0, true), (1, true), (2, true)] (by kernel_rfl) ?_
   refine Plan.move_int rfl rfl <| Plan.move_int rfl rfl <| Plan.cmpP (a := (x_1 : Int)) (b := (y2 : Int)) (p := x_1 < y2) rfl rfl rfl rfl icmp_lt <| Plan.nil (k25 _ _ ?_); clear k25
   by_cases hc26 : x_1 < y2
   ·
    replace hR := ifT hR hc26
    refine W.condT (congrArg Value.bool (decide_eq_true hc26)) ?_
    refine W.seq_k fun _ k27 => W.regionT [(0, true)] (by kernel_rfl) ?_
    refine Plan.assign_int rfl rfl <| Plan.nil (k27 _ _ ?_); clear k27
    refine W.ret (thenR_ret (finR_ret ?_))
    subst r
    refine RetOk.mk (.tmp_int rfl .nil) ?_
    exact ⟨rfl, h11⟩
   ·
    replace hR := ifF hR hc26
    refine W.condF (congrArg Value.bool (decide_eq_false hc26)) ?_
    refine W.skip ?_
    refine k24 _ _ ?_; clear k24
    refine W.seq_k fun _ k28 => W.seq_k fun _ k29 => ?_
    refine W.regionT [(0, true), (1, true), (2, true)] (by kernel_rfl) ?_
    refine Plan.move_int rfl rfl <| Plan.move_int rfl rfl <| Plan.cmpP (a := (x_1 : Int)) (b := (y2 : Int)) (p := y2 < x_1) rfl rfl rfl rfl icmp_gt <| Plan.nil (k29 _ _ ?_); clear k29
    by_cases hc30 : y2 < x_1
    ·
     replace hR := ifT hR hc30
     refine W.condT (congrArg Value.bool (decide_eq_true hc30)) ?_
     refine W.seq_k fun _ k31 => W.regionT [(0, true)] (by kernel_rfl) ?_
     refine Plan.assign_int rfl rfl <| Plan.nil (k31 _ _ ?_); clear k31
     refine W.ret (thenR_ret (finR_ret ?_))
     subst r
     refine RetOk.mk (.tmp_int rfl .nil) ?_
     exact ⟨rfl, h11⟩
    ·
     replace hR := ifF hR hc30
     refine W.condF (congrArg Value.bool (decide_eq_false hc30)) ?_
     refine W.skip ?_
     refine k28 _ _ ?_; clear k28
     refine W.seq_k fun _ k32 => W.regionT [(0, true)] (by kernel_rfl) ?_
     refine Plan.assign_int rfl rfl <| Plan.nil (k32 _ _ ?_); clear k32
     refine W.ret (finR_ret ?_)
     subst r
     refine RetOk.mk (.tmp_int rfl .nil) ?_
     exact ⟨rfl, h11⟩
end Go.Proofs.Ytbkgblhmlenocaa
