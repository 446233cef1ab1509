/-
 WALKS of the package's functions, printed by this session's own program (auto.py).
-/
import Derived.Test.YtbkgblhmlenocaaProg
import Derived.Test.YtbkgblhmlenocaaEd
import Derived.Test.YtbkgblhmlenocaaRLaw23
import Derived.Test.YtbkgblhmlenocaaEls
namespace Go.Proofs.Ytbkgblhmlenocaa
set_option linter.unusedSimpArgs false
set_option linter.unusedVariables false
set_option linter.unusedSectionVars false
set_option maxRecDepth 8000
set_option maxHeartbeats 1000000
open Go Go.LW
theorem FLaw23.fld60_0 : fieldB Try.prog 60 0 0 = true := by kernel_rfl
theorem FLaw23.sc3 : scalarT Try.prog 3 = true := by kernel_rfl
theorem FLaw23.slu23 : Try.prog.underlying 23 = some (.slice 5) := by kernel_rfl
theorem FLaw23.u5 : Try.prog.underlying 5 = some (.int .u8) := by kernel_rfl
theorem FLaw23.str9 : Try.prog.underlying 9 = some .string := by kernel_rfl
theorem FLaw23.fld60_3 : fieldB Try.prog 60 3 3 = true := by kernel_rfl
theorem FLaw23.sc23 : scalarT Try.prog 23 = true := by kernel_rfl
theorem FLaw23.fld60_1 : fieldB Try.prog 60 1 1 = true := by kernel_rfl
theorem FLaw23.fld60_2 : fieldB Try.prog 60 2 2 = true := by kernel_rfl
theorem lethelaw23_same_ok {B : Nat} {w0 : Base} {w : World} {L : List Rg} {aNumber1 : Int} {aFrom2 : Int} {aTo3 : Int} {aBytes4 : List Byte} {aaBytes4 : Option Addr} {naBytes4 caBytes4 iaBytes4 : Nat} (haBytes4 : Bx L iaBytes4 aaBytes4 naBytes4 caBytes4 aBytes4) {bNumber5 : Int} {bFrom6 : Int} {bTo7 : Int} {bBytes8 : List Byte} {abBytes8 : Option Addr} {nbBytes8 cbBytes8 ibBytes8 : Nat} (hbBytes8 : Bx L ibBytes8 abBytes8 nbBytes8 cbBytes8 bBytes8) {r : Bool} (hR : lethelaw23_same aNumber1 aFrom2 aTo3 aBytes4 bNumber5 bFrom6 bTo7 bBytes8 r) (HST : St B w0 (L) w) :
  Calls Try.prog 69 #[AG [(1, fun _ => .int .i64 aNumber1), (1, fun _ => .int .i64 aFrom2), (1, fun _ => .int .i64 aTo3), (1, fun _ => .slice aaBytes4 naBytes4 caBytes4)], AG [(1, fun _ => .int .i64 bNumber5), (1, fun _ => .int .i64 bFrom6), (1, fun _ => .int .i64 bTo7), (1, fun _ => .slice abBytes8 nbBytes8 cbBytes8)]] w fun e w' => e = .returned (.bool r) ∧ St B w0 (L) w' := by
 refine W.enter 33 Try.func69 rfl rfl rfl ?_
 unfold lethelaw23_same at hR
 have eaBytes4 := haBytes4.hl; subst eaBytes4
 have ebBytes8 := hbBytes8.hl; subst ebBytes8
 refine W.seq_k fun _ k9 => W.regionT [(0, false), (1, false), (2, true)] (by kernel_rfl) ?_
 refine Plan.boxA HST rfl rfl PIn.nil fun b10 w10 hb10 h10 => ?_
 simp only [rngs, Nat.zero_add, Nat.reduceAdd, zca, zna] at h10
 refine Plan.boxA h10 rfl rfl PIn.nil fun b11 w11 hb11 h11 => ?_
 simp only [rngs, Nat.zero_add, Nat.reduceAdd, zca, zna] at h11
 refine Plan.assign_bool rfl rfl <| Plan.nil (k9 _ _ ?_); clear k9
 refine W.seq_k fun _ k12 => W.regionT [(0, true), (1, true), (2, true), (3, true), (4, true), (5, true), (6, true), (7, true), (8, true), (9, true), (10, true), (11, true), (12, true), (13, true), (14, true), (15, true), (16, true), (17, true), (18, true), (19, true), (20, true), (21, true), (22, true), (23, true), (24, true), (25, true), (26, true), (27, true), (28, true)] (by kernel_rfl) ?_
 refine Plan.fieldAddr0 FLaw23.fld60_0 rfl rfl <| Plan.load0 h11 4 rfl rfl rfl (by omega) FLaw23.sc3 <| Plan.fieldAddr0 FLaw23.fld60_0 rfl rfl <| Plan.load0 h11 0 rfl rfl rfl (by omega) FLaw23.sc3 ?_
 by_cases hc13 : aNumber1 = bNumber5
 ·
  replace hR := ifT hR hc13
  refine Plan.cmpV (a := (aNumber1 : Int)) (b := (bNumber5 : Int)) (p := aNumber1 = bNumber5) (v := true) rfl rfl rfl rfl icmp_eq (decide_eq_true hc13) <| Plan.move_bool rfl rfl <| Plan.fieldAddr 1 FLaw23.fld60_1 rfl rfl <| Plan.load0 h11 5 rfl rfl rfl (by omega) FLaw23.sc3 <| Plan.fieldAddr 1 FLaw23.fld60_1 rfl rfl <| Plan.load0 h11 1 rfl rfl rfl (by omega) FLaw23.sc3 ?_
  by_cases hc14 : aFrom2 = bFrom6
  ·
   replace hR := ifT hR hc14
   refine Plan.cmpV (a := (aFrom2 : Int)) (b := (bFrom6 : Int)) (p := aFrom2 = bFrom6) (v := true) rfl rfl rfl rfl icmp_eq (decide_eq_true hc14) <| Plan.pickTb rfl rfl rfl <| Plan.move_bool rfl rfl <| Plan.fieldAddr 2 FLaw23.fld60_2 rfl rfl <| Plan.load0 h11 6 rfl rfl rfl (by omega) FLaw23.sc3 <| Plan.fieldAddr 2 FLaw23.fld60_2 rfl rfl <| Plan.load0 h11 2 rfl rfl rfl (by omega) FLaw23.sc3 ?_
   by_cases hc15 : aTo3 = bTo7
   ·
    replace hR := ifT hR hc15
    refine Plan.cmpV (a := (aTo3 : Int)) (b := (bTo7 : Int)) (p := aTo3 = bTo7) (v := true) rfl rfl rfl rfl icmp_eq (decide_eq_true hc15) <| Plan.pickTb rfl rfl rfl <| Plan.move_bool rfl rfl <| Plan.fieldAddr 3 FLaw23.fld60_3 rfl rfl <| Plan.load0 h11 7 rfl rfl rfl (by omega) FLaw23.sc23 ?_
    refine Plan.toStrV h11 (haBytes4.app [_, _, _, _, _, _, _, _]) FLaw23.slu23 FLaw23.u5 FLaw23.str9 rfl rfl fun r16 hr16 => ?_
    replace hr16 := or_un [_, _, _, _, _, _, _, _] hr16
    refine Plan.fieldAddr 3 FLaw23.fld60_3 rfl rfl <| Plan.load0 h11 3 rfl rfl rfl (by omega) FLaw23.sc23 ?_
    refine Plan.toStrV h11 (hbBytes8.app [_, _, _, _, _, _, _, _]) FLaw23.slu23 FLaw23.u5 FLaw23.str9 rfl rfl fun r17 hr17 => ?_
    replace hr17 := or_un [_, _, _, _, _, _, _, _] hr17
    refine Plan.eqStrV (v := decide (aBytes4 = bBytes8)) rfl rfl rfl rfl <| Plan.pickTb rfl rfl rfl <| Plan.assign_bool rfl rfl <| Plan.nil (k12 _ _ ?_); clear k12
    refine W.ret (finR_ret ?_)
    have h18 := St.pickT (C := [_, _, _, _, _, _, _, _]) h11 [] (by decide)
    simp only [pick, zfc, zfn, zgz, zgs, zca, zna] at h18
    subst r
    refine RetOk.mk (.tmp_bool rfl .nil) ?_
    exact ⟨rfl, h18⟩
   ·
    replace hR := ifF hR hc15
    refine Plan.cmpV (a := (aTo3 : Int)) (b := (bTo7 : Int)) (p := aTo3 = bTo7) (v := false) rfl rfl rfl rfl icmp_eq (decide_eq_false hc15) <| Plan.pickTb rfl rfl rfl <| Plan.move_bool rfl rfl <| Plan.passed rfl <| Plan.passed rfl <| Plan.passed rfl <| Plan.passed rfl <| Plan.passed rfl ?_
    refine Plan.passed rfl <| Plan.passed rfl <| Plan.pickFb rfl rfl rfl <| Plan.assign_bool rfl rfl <| Plan.nil (k12 _ _ ?_); clear k12
    refine W.ret (finR_ret ?_)
    have h19 := St.pickT (C := [_, _, _, _, _, _, _, _]) h11 [] (by decide)
    simp only [pick, zfc, zfn, zgz, zgs, zca, zna] at h19
    subst r
    refine RetOk.mk (.tmp_bool rfl .nil) ?_
    exact ⟨rfl, h19⟩
  ·
   replace hR := ifF hR hc14
   refine Plan.cmpV (a := (aFrom2 : Int)) (b := (bFrom6 : Int)) (p := aFrom2 = bFrom6) (v := false) rfl rfl rfl rfl icmp_eq (decide_eq_false hc14) <| Plan.pickTb rfl rfl rfl <| Plan.move_bool rfl rfl <| Plan.passed rfl <| Plan.passed rfl <| Plan.passed rfl <| Plan.passed rfl <| Plan.passed rfl ?_
   refine Plan.pickFb rfl rfl rfl <| Plan.move_bool rfl rfl <| Plan.passed rfl <| Plan.passed rfl <| Plan.passed rfl <| Plan.passed rfl <| Plan.passed rfl <| Plan.passed rfl ?_
   refine Plan.passed rfl <| Plan.pickFb rfl rfl rfl <| Plan.assign_bool rfl rfl <| Plan.nil (k12 _ _ ?_); clear k12
   refine W.ret (finR_ret ?_)
   have h20 := St.pickT (C := [_, _, _, _, _, _, _, _]) h11 [] (by decide)
   simp only [pick, zfc, zfn, zgz, zgs, zca, zna] at h20
   subst r
   refine RetOk.mk (.tmp_bool rfl .nil) ?_
   exact ⟨rfl, h20⟩
 ·
  replace hR := ifF hR hc13
  refine Plan.cmpV (a := (aNumber1 : Int)) (b := (bNumber5 : Int)) (p := aNumber1 = bNumber5) (v := false) rfl rfl rfl rfl icmp_eq (decide_eq_false hc13) <| Plan.move_bool rfl rfl <| Plan.passed rfl <| Plan.passed rfl <| Plan.passed rfl <| Plan.passed rfl <| Plan.passed rfl <| Plan.pickFb rfl rfl rfl ?_
  refine Plan.move_bool rfl rfl <| Plan.passed rfl <| Plan.passed rfl <| Plan.passed rfl <| Plan.passed rfl <| Plan.passed rfl <| Plan.pickFb rfl rfl rfl <| Plan.move_bool rfl rfl ?_
  refine Plan.passed rfl <| Plan.passed rfl <| Plan.passed rfl <| Plan.passed rfl <| Plan.passed rfl <| Plan.passed rfl <| Plan.passed rfl <| Plan.pickFb rfl rfl rfl ?_
  refine Plan.assign_bool rfl rfl <| Plan.nil (k12 _ _ ?_); clear k12
  refine W.ret (finR_ret ?_)
  have h21 := St.pickT (C := [_, _, _, _, _, _, _, _]) h11 [] (by decide)
  simp only [pick, zfc, zfn, zgz, zgs, zca, zna] at h21
  subst r
  refine RetOk.mk (.tmp_bool rfl .nil) ?_
  exact ⟨rfl, h21⟩
end Go.Proofs.Ytbkgblhmlenocaa
