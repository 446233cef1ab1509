/-
  WALKS of the package's functions, printed by this session's own program (auto.py).
-/
import Derived.Test.YtjblfkmmbpcpaaaDoorProg
import Derived.Test.YtjblfkmmbpcpaaaDoorLx7
import Derived.Test.YtjblfkmmbpcpaaaDoorRCurveForms
import Derived.Test.YtjblfkmmbpcpaaaDoorWCurve
import Derived.Test.YtjblfkmmbpcpaaaDoorWLaw07
namespace Go.Proofs.YtjblfkmmbpcpaaaDoor
set_option linter.unusedSimpArgs false
set_option linter.unusedVariables false
set_option linter.unusedSectionVars false
open Go Go.LW
theorem FCurveForms.mixed : Tryd.prog.follows .mixedOrders = true := by kernel_rfl
theorem FCurveForms.agg23 : aggT Tryd.prog 23 32 = true := by kernel_rfl
theorem FCurveForms.arr23 : arrB Tryd.prog 23 32 1 = true := by kernel_rfl
theorem FCurveForms.sc5 : scalarT Tryd.prog 5 = true := by kernel_rfl
theorem FCurveForms.z23 : zeroIs Tryd.prog 23 [(32, fun _ => VU .u8 0#8)] := zeroIs_agg (by kernel_rfl)
theorem FCurveForms.u5 : Tryd.prog.underlying 5 = some (.int .u8) := by kernel_rfl
theorem FCurveForms.sz5 : szT Tryd.prog 5 1 = true := by kernel_rfl
theorem FCurveForms.sz23 : szT Tryd.prog 23 32 = true := by kernel_rfl
theorem FCurveForms.arrI23 : arrIB Tryd.prog 23 32 .u8 = true := by kernel_rfl
theorem FCurveForms.some3 : (Tryd.prog.underlying 3).isSome = true := by kernel_rfl
theorem FCurveForms.call26 : callB Tryd.prog 26 = true := by kernel_rfl
theorem FCurveForms.call24 : callB Tryd.prog 24 = true := by kernel_rfl
theorem FCurveForms.call23 : callB Tryd.prog 23 = true := by kernel_rfl

set_option maxRecDepth 8000 in
set_option maxHeartbeats 1000000 in
theorem lethelaw07_CurveForms_ok {B : Nat} {w0 w : World} {L : List Rg} {iG0 : Nat} (hG0 : L[iG0]? = some ⟨some 0, 0, 5, fun q => VU .u64 (twice5 q), false⟩) {k1 : Nat → BitVec 8} {u2 : Nat → BitVec 8} {small3 : Int} {r : Bool} (hR : lethelaw07_CurveForms k1 u2 small3 r) (HST : St B w0 (L) w) :
    Calls Tryd.prog 8 #[AG [(32, fun q => VU .u8 (k1 q))], AG [(32, fun q => VU .u8 (u2 q))], .int .i64 small3] w fun e w' => e = .returned (.bool r) ∧ St B w0 (L) w' := by
  refine W.enter 80 Tryd.func8 rfl rfl rfl ?_
  unfold lethelaw07_CurveForms at hR
  refine W.seq_k fun K4 hK4 => ?_
  refine W.regionT [(0, false), (1, false), (2, true)] (by kernel_rfl) ?_
  refine Plan.boxA HST rfl rfl PIn.nil fun b5 w5 hb5 h5 => ?_
  simp only [rngs, Nat.zero_add, Nat.reduceAdd, List.cons_append, List.nil_append] at h5
  refine Plan.boxA h5 rfl rfl PIn.nil fun b6 w6 hb6 h6 => ?_
  simp only [rngs, Nat.zero_add, Nat.reduceAdd, List.cons_append, List.nil_append] at h6
  refine Plan.assign_bool rfl rfl ?_
  refine Plan.nil ?_
  refine hK4 _ _ ?_; clear hK4
  refine W.seq_k fun K7 hK7 => ?_
  refine W.regionT [(0, true), (1, true), (2, false), (3, false), (4, false)] (by kernel_rfl) ?_
  refine Plan.loadA1 h6 1 rfl rfl rfl FCurveForms.agg23 ?_
  refine Plan.loadA1 h6 0 rfl rfl rfl FCurveForms.agg23 ?_
  obtain ⟨x_9, hr8, hR⟩ := hR
  refine Plan.call (vs := [AG [(32, fun q => VU .u8 (k1 q))], AG [(32, fun q => VU .u8 (u2 q))]]) rfl FCurveForms.call24 rfl (curve_Times_ok (iG0 := iG0 + 2) hG0 hr8 h6) ?_
  rintro _ w10 ⟨rfl, h10⟩
  refine ⟨_, rfl, .inr ⟨rfl, ?_⟩⟩
  refine Plan.alloc h10 rfl FCurveForms.z23 PIn.nil fun b11 w11 hb11 h11 => ?_
  simp only [rngs, Nat.zero_add, Nat.reduceAdd, List.cons_append, List.nil_append] at h11
  refine Plan.storeA (f' := fun q => VU .u8 (x_9 q)) h11 0 rfl rfl rfl rfl (fun _ _ => rfl) FCurveForms.sz23 rfl fun w12 h12 => ?_
  simp only [List.cons_append, List.nil_append, List.set_cons_zero, List.set_cons_succ] at h12
  refine Plan.nil ?_
  refine hK7 _ _ ?_; clear hK7
  refine W.seq_k fun K13 hK13 => ?_
  refine W.regionT [(0, true), (1, false), (2, false), (3, false)] (by kernel_rfl) ?_
  refine Plan.loadA1 h12 2 rfl rfl rfl FCurveForms.agg23 ?_
  obtain ⟨x_15, hr14, hR⟩ := hR
  refine Plan.call (vs := [AG [(32, fun q => VU .u8 (k1 q))]]) rfl FCurveForms.call26 rfl (curve_Clamp_ok  hr14 h12) ?_
  rintro _ w16 ⟨rfl, h16⟩
  refine ⟨_, rfl, .inr ⟨rfl, ?_⟩⟩
  refine Plan.alloc h16 rfl FCurveForms.z23 PIn.nil fun b17 w17 hb17 h17 => ?_
  simp only [rngs, Nat.zero_add, Nat.reduceAdd, List.cons_append, List.nil_append] at h17
  refine Plan.storeA (f' := fun q => VU .u8 (x_15 q)) h17 0 rfl rfl rfl rfl (fun _ _ => rfl) FCurveForms.sz23 rfl fun w18 h18 => ?_
  simp only [List.cons_append, List.nil_append, List.set_cons_zero, List.set_cons_succ] at h18
  refine Plan.nil ?_
  refine hK13 _ _ ?_; clear hK13
  refine W.seq_k fun K19 hK19 => ?_
  refine W.regionT [(0, true), (1, true), (2, true), (3, true), (4, false)] (by kernel_rfl) ?_
  refine Plan.idxArr1 (j := 0) FCurveForms.arr23 rfl rfl rfl (by omega) ?_
  refine Plan.load1 (j := 0) h18 3 rfl rfl rfl (by omega) FCurveForms.sc5 ?_
  refine Plan.xorU .u8 (X := (k1 0)) (Y := 7#8) rfl rfl rfl ?_
  refine Plan.idxArr1 (j := 0) FCurveForms.arr23 rfl rfl rfl (by omega) ?_
  refine Plan.storeU (j := 0) (X := ((k1 0) ^^^ (7#8))) h18 3 rfl rfl rfl rfl (by omega) FCurveForms.sz5 rfl fun w20 h20 => ?_
  simp only [List.cons_append, List.nil_append, List.set_cons_zero, List.set_cons_succ] at h20
  refine Plan.nil ?_
  refine hK19 _ _ ?_; clear hK19
  refine W.seq_k fun K21 hK21 => ?_
  refine W.regionT [(0, true), (1, true), (2, true), (3, true), (4, false)] (by kernel_rfl) ?_
  refine Plan.idxArr1 (j := 31) FCurveForms.arr23 rfl rfl rfl (by omega) ?_
  refine Plan.load1 (j := 31) h20 3 rfl rfl rfl (by omega) FCurveForms.sc5 ?_
  refine Plan.xorU .u8 (X := ((upd k1 0 ((k1 0) ^^^ (7#8))) 31)) (Y := 192#8) rfl rfl rfl ?_
  refine Plan.idxArr1 (j := 31) FCurveForms.arr23 rfl rfl rfl (by omega) ?_
  refine Plan.storeU (j := 31) (X := (((upd k1 0 ((k1 0) ^^^ (7#8))) 31) ^^^ (192#8))) h20 3 rfl rfl rfl rfl (by omega) FCurveForms.sz5 rfl fun w22 h22 => ?_
  simp only [List.cons_append, List.nil_append, List.set_cons_zero, List.set_cons_succ] at h22
  refine Plan.nil ?_
  refine hK21 _ _ ?_; clear hK21
  refine W.seq_k fun K23 hK23 => ?_
  refine W.regionT [(0, true), (1, false), (2, false)] (by kernel_rfl) ?_
  refine Plan.loadA1 h22 2 rfl rfl rfl FCurveForms.agg23 ?_
  refine Plan.alloc h22 rfl FCurveForms.z23 (PIn.cons 2 rfl PIn.nil) fun b24 w24 hb24 h24 => ?_
  simp only [rngs, Nat.zero_add, Nat.reduceAdd, List.cons_append, List.nil_append] at h24
  refine Plan.storeA (f' := fun q => VU .u8 (u2 q)) h24 0 rfl rfl rfl rfl (fun _ _ => rfl) FCurveForms.sz23 rfl fun w25 h25 => ?_
  simp only [List.cons_append, List.nil_append, List.set_cons_zero, List.set_cons_succ] at h25
  refine Plan.nil ?_
  refine hK23 _ _ ?_; clear hK23
  refine W.seq_k fun K26 hK26 => ?_
  refine W.regionT [(0, true), (1, true), (2, true), (3, true), (4, false)] (by kernel_rfl) ?_
  refine Plan.idxArr1 (j := 31) FCurveForms.arr23 rfl rfl rfl (by omega) ?_
  refine Plan.load1 (j := 31) h25 0 rfl rfl rfl (by omega) FCurveForms.sc5 ?_
  refine Plan.xorU .u8 (X := (u2 31)) (Y := 128#8) rfl rfl rfl ?_
  refine Plan.idxArr1 (j := 31) FCurveForms.arr23 rfl rfl rfl (by omega) ?_
  refine Plan.storeU (j := 31) (X := ((u2 31) ^^^ (128#8))) h25 0 rfl rfl rfl rfl (by omega) FCurveForms.sz5 rfl fun w27 h27 => ?_
  simp only [List.cons_append, List.nil_append, List.set_cons_zero, List.set_cons_succ] at h27
  refine Plan.nil ?_
  refine hK26 _ _ ?_; clear hK26
  refine W.seq_k fun K28 hK28 => ?_
  refine W.regionT [(0, true), (1, true), (2, true)] (by kernel_rfl) ?_
  refine Plan.move_int rfl rfl ?_
  have hb29 := tmod_bd small3 (c := 19) (by decide)
  refine Plan.remI (a := small3) (b := 19) rfl rfl rfl (by omega) ?_
  refine Plan.assign_int rfl rfl ?_
  refine Plan.nil ?_
  refine hK28 _ _ ?_; clear hK28
  refine W.seq_k fun K30 hK30 => ?_
  obtain ⟨n_33, hX34, hR034⟩ := hR
  refine W.cutN (fun e w => ∃ y_n_33 : Int, (n_33 = y_n_33) ∧ EnvHas e [(3, .pointer (some ⟨b5, 0, none⟩)), (4, .pointer (some ⟨b6, 0, none⟩)), (7, .pointer (some ⟨b11, 0, none⟩)), (8, .pointer (some ⟨b17, 0, none⟩)), (9, .pointer (some ⟨b24, 0, none⟩)), (10, .int .i64 y_n_33)] ∧ St B w0 (⟨some b24, 0, 32, fun q => VU .u8 ((upd u2 31 ((u2 31) ^^^ (128#8))) q), true⟩ :: ⟨some b17, 0, 32, fun q => VU .u8 (x_15 q), true⟩ :: ⟨some b11, 0, 32, fun q => VU .u8 (x_9 q), true⟩ :: ⟨some b6, 0, 32, fun q => VU .u8 (u2 q), true⟩ :: ⟨some b5, 0, 32, fun q => VU .u8 ((upd (upd k1 0 ((k1 0) ^^^ (7#8))) 31 (((upd k1 0 ((k1 0) ^^^ (7#8))) 31) ^^^ (192#8))) q), true⟩ :: L) w) ?_ ?_
  ·
    replace hR := hX34
    refine W.seq_k fun K35 hK35 => ?_
    refine W.regionT [(0, true), (1, true)] (by kernel_rfl) ?_
    refine Plan.move_int rfl rfl ?_
    refine Plan.cmpP (a := ((small3.tmod 19) : Int)) (b := (0 : Int)) (p := (small3.tmod 19) < 0) rfl rfl rfl rfl icmp_lt ?_
    refine Plan.nil ?_
    refine hK35 _ _ ?_; clear hK35
    by_cases hc36 : (small3.tmod 19) < 0
    ·
      replace hR := ifT hR hc36
      refine W.condT (congrArg Value.bool (decide_eq_true hc36)) ?_
      refine W.regionT [(0, true), (1, true), (2, true)] (by kernel_rfl) ?_
      refine Plan.move_int rfl rfl ?_
      refine Plan.addI (a := (small3.tmod 19)) (b := 19) rfl rfl rfl (by omega) ?_
      refine Plan.assign_int rfl rfl ?_
      refine Plan.nil ?_
      exact ⟨((small3.tmod 19) + 19), hR, (EnvHas.cons rfl (EnvHas.cons rfl (EnvHas.cons rfl (EnvHas.cons rfl (EnvHas.cons rfl (EnvHas.cons rfl EnvHas.nil)))))), h27⟩
    ·
      replace hR := ifF hR hc36
      refine W.condF (congrArg Value.bool (decide_eq_false hc36)) ?_
      refine W.skip ?_
      exact ⟨(small3.tmod 19), hR, (EnvHas.cons rfl (EnvHas.cons rfl (EnvHas.cons rfl (EnvHas.cons rfl (EnvHas.cons rfl (EnvHas.cons rfl EnvHas.nil)))))), h27⟩
  ·
    rintro ev37 wl37 ⟨y_n_33, hy37_0, he37, h37⟩
    subst hy37_0
    obtain ⟨ev37, rfl⟩ := he37.open
    replace hR := hR034
    refine hK30 _ _ ?_; clear hK30
    refine W.seq_k fun K38 hK38 => ?_
    refine W.regionT [(0, false)] (by kernel_rfl) ?_
    refine Plan.alloc h37 rfl FCurveForms.z23 PIn.nil fun b39 w39 hb39 h39 => ?_
    simp only [rngs, Nat.zero_add, Nat.reduceAdd, List.cons_append, List.nil_append] at h39
    refine Plan.nil ?_
    refine hK38 _ _ ?_; clear hK38
    refine W.seq_k fun K40 hK40 => ?_
    refine W.seq_k fun K41 hK41 => ?_
    refine W.regionT [(0, true)] (by kernel_rfl) ?_
    refine Plan.assign_int rfl rfl ?_
    refine Plan.nil ?_
    refine hK41 _ _ ?_; clear hK41
    obtain ⟨m56, hI57, hR057⟩ := hR
    refine W.cutN (fun e w => ∃ y_m56 : Nat → BitVec 8, m56 = y_m56 ∧ EnvHas e [(3, .pointer (some ⟨b5, 0, none⟩)), (4, .pointer (some ⟨b6, 0, none⟩)), (7, .pointer (some ⟨b11, 0, none⟩)), (8, .pointer (some ⟨b17, 0, none⟩)), (9, .pointer (some ⟨b24, 0, none⟩)), (10, .int .i64 n_33), (11, .pointer (some ⟨b39, 0, none⟩))] ∧ St B w0 (⟨some b39, 0, 32, fun q => VU .u8 (y_m56 q), true⟩ :: ⟨some b24, 0, 32, fun q => VU .u8 ((upd u2 31 ((u2 31) ^^^ (128#8))) q), true⟩ :: ⟨some b17, 0, 32, fun q => VU .u8 (x_15 q), true⟩ :: ⟨some b11, 0, 32, fun q => VU .u8 (x_9 q), true⟩ :: ⟨some b6, 0, 32, fun q => VU .u8 (u2 q), true⟩ :: ⟨some b5, 0, 32, fun q => VU .u8 ((upd (upd k1 0 ((k1 0) ^^^ (7#8))) 31 (((upd k1 0 ((k1 0) ^^^ (7#8))) 31) ^^^ (192#8))) q), true⟩ :: L) w) ?_ ?_
    ·
      refine W.block ?_
      refine W.iter hI57 (fun (s57 : (Nat × (Nat → BitVec 8))) e w => EnvHas e [(3, .pointer (some ⟨b5, 0, none⟩)), (4, .pointer (some ⟨b6, 0, none⟩)), (7, .pointer (some ⟨b11, 0, none⟩)), (8, .pointer (some ⟨b17, 0, none⟩)), (9, .pointer (some ⟨b24, 0, none⟩)), (10, .int .i64 n_33), (11, .pointer (some ⟨b39, 0, none⟩)), (12, VN s57.1)] ∧ St B w0 (⟨some b39, 0, 32, fun q => VU .u8 (s57.2 q), true⟩ :: ⟨some b24, 0, 32, fun q => VU .u8 ((upd u2 31 ((u2 31) ^^^ (128#8))) q), true⟩ :: ⟨some b17, 0, 32, fun q => VU .u8 (x_15 q), true⟩ :: ⟨some b11, 0, 32, fun q => VU .u8 (x_9 q), true⟩ :: ⟨some b6, 0, 32, fun q => VU .u8 (u2 q), true⟩ :: ⟨some b5, 0, 32, fun q => VU .u8 ((upd (upd k1 0 ((k1 0) ^^^ (7#8))) 31 (((upd k1 0 ((k1 0) ^^^ (7#8))) 31) ^^^ (192#8))) q), true⟩ :: L) w) ⟨(EnvHas.cons rfl (EnvHas.cons rfl (EnvHas.cons rfl (EnvHas.cons rfl (EnvHas.cons rfl (EnvHas.cons rfl (EnvHas.cons rfl (EnvHas.cons rfl EnvHas.nil)))))))), h39⟩ ?_
      rintro ⟨i_54, m55⟩ o57 hR hx57 ev58 wl58 ⟨he58, h58⟩
      obtain ⟨ev58, rfl⟩ := he58.open
      unfold lethelaw07_CurveForms_l0 at hR
      refine W.seq_k fun K59 hK59 => ?_
      refine W.seq_k fun K60 hK60 => ?_
      refine W.regionT [(0, true), (1, true)] (by kernel_rfl) ?_
      refine Plan.move_int rfl rfl ?_
      refine Plan.cmpP (a := (((i_54 : Nat) : Int) : Int)) (b := (32 : Int)) (p := i_54 < 32) rfl rfl rfl rfl icmp_ltN ?_
      refine Plan.nil ?_
      refine hK60 _ _ ?_; clear hK60
      by_cases hc61 : i_54 < 32
      ·
        replace hR := ifT hR hc61
        refine W.condT (congrArg Value.bool (decide_eq_true hc61)) ?_
        refine W.skip ?_
        refine hK59 _ _ ?_; clear hK59
        refine W.seq_k fun K62 hK62 => ?_
        refine W.block ?_
        refine W.regionT [(0, true), (1, true), (2, false)] (by kernel_rfl) ?_
        refine Plan.move_int rfl rfl ?_
        refine Plan.idxArr1 (j := i_54) FCurveForms.arr23 rfl rfl rfl (by omega) ?_
        refine Plan.storeU (j := i_54) (X := 255#8) h58 0 rfl rfl rfl rfl (by omega) FCurveForms.sz5 rfl fun w63 h63 => ?_
        simp only [List.cons_append, List.nil_append, List.set_cons_zero, List.set_cons_succ] at h63
        refine Plan.nil ?_
        refine blockR_norm ?_
        refine hK62 _ _ ?_; clear hK62
        refine W.regionT [(0, true), (1, true), (2, true)] (by kernel_rfl) ?_
        refine Plan.move_int rfl rfl ?_
        refine Plan.addN (a := i_54) (b := 1) rfl rfl rfl (by omega) ?_
        refine Plan.assign_int rfl rfl ?_
        refine Plan.nil ?_
        exact iterR_norm ⟨_, hR, (EnvHas.cons rfl (EnvHas.cons rfl (EnvHas.cons rfl (EnvHas.cons rfl (EnvHas.cons rfl (EnvHas.cons rfl (EnvHas.cons rfl (EnvHas.cons rfl EnvHas.nil)))))))), h63⟩
      ·
        replace hR := ifF hR hc61
        refine W.condF (congrArg Value.bool (decide_eq_false hc61)) ?_
        refine W.exit (thenR_exit (iterR_exit (blockR_here ?_)))
        exact ⟨m55, (hx57 _ hR).symm, (EnvHas.cons rfl (EnvHas.cons rfl (EnvHas.cons rfl (EnvHas.cons rfl (EnvHas.cons rfl (EnvHas.cons rfl (EnvHas.cons rfl EnvHas.nil))))))), h58⟩
    ·
      rintro ev64 wl64 ⟨y_m56, hy64, he64, h64⟩
      obtain ⟨ev64, rfl⟩ := he64.open
      subst hy64
      replace hR := hR057
      refine hK40 _ _ ?_; clear hK40
      refine W.seq_k fun K65 hK65 => ?_
      refine W.regionT [(0, true), (1, true), (2, true), (3, true), (4, false)] (by kernel_rfl) ?_
      refine Plan.move_int rfl rfl ?_
      obtain ⟨hc66, hR⟩ := hR
      refine Plan.addI (a := 237) (b := n_33) rfl rfl rfl (by omega) ?_
      refine Plan.convIU .u8 (a := (237 + n_33)) FCurveForms.u5 FCurveForms.some3 rfl rfl ?_
      refine Plan.idxArr1 (j := 0) FCurveForms.arr23 rfl rfl rfl (by omega) ?_
      refine Plan.storeU (j := 0) (X := (BitVec.ofInt 8 (237 + n_33))) h64 0 rfl rfl rfl rfl (by omega) FCurveForms.sz5 rfl fun w67 h67 => ?_
      simp only [List.cons_append, List.nil_append, List.set_cons_zero, List.set_cons_succ] at h67
      refine Plan.nil ?_
      refine hK65 _ _ ?_; clear hK65
      refine W.seq_k fun K68 hK68 => ?_
      refine W.regionT [(0, false), (1, true)] (by kernel_rfl) ?_
      obtain ⟨x_70, hr69, hR⟩ := hR
      refine Plan.call (vs := []) rfl FCurveForms.call23 rfl (lethelaw07_fixed_ok (iG0 := iG0 + 6) hG0 hr69 h67) ?_
      rintro _ w71 ⟨rfl, h71⟩
      refine ⟨_, rfl, .inl ⟨PIn.keep PIn.nil h71, ?_⟩⟩
      refine Plan.assign_bool rfl rfl ?_
      refine Plan.nil ?_
      refine hK68 _ _ ?_; clear hK68
      refine W.seq_k fun K72 hK72 => ?_
      refine W.seq_k fun K92 hK92 => ?_
      refine W.regionD FCurveForms.mixed [(0, true), (1, true), (2, true), (3, true), (4, true), (6, true), (5, false), (7, true), (8, true), (9, true), (10, true), (11, true), (13, true), (12, false), (14, true), (15, true), (16, true), (17, true), (19, true), (18, false), (20, true), (21, true)] (by kernel_rfl) ?_
      have h93 := h71.drew
      by_cases hc94 : x_70 = true
      ·
        replace hR := ifT hR hc94
        refine Plan.move_bool (b := true) rfl (congrArg Value.bool hc94) ?_
        refine Plan.notT rfl rfl ?_
        refine Plan.move_bool rfl rfl ?_
        refine Plan.loadA1 h93 5 rfl rfl rfl FCurveForms.agg23 ?_
        refine Plan.loadA1 h93 4 rfl rfl rfl FCurveForms.agg23 ?_
        refine Plan.loadA1 h93 3 rfl rfl rfl FCurveForms.agg23 ?_
        obtain ⟨x_96, hr95, hR⟩ := hR
        refine Plan.call (vs := [AG [(32, fun q => VU .u8 ((upd (upd k1 0 ((k1 0) ^^^ (7#8))) 31 (((upd k1 0 ((k1 0) ^^^ (7#8))) 31) ^^^ (192#8))) q))], AG [(32, fun q => VU .u8 (u2 q))]]) rfl FCurveForms.call24 rfl (curve_Times_ok (iG0 := iG0 + 6) hG0 hr95 h93) ?_
        rintro _ w97 ⟨rfl, h97⟩
        refine ⟨_, rfl, .inl ⟨PIn.keep (PIn.cons 3 rfl (PIn.cons 4 rfl (PIn.cons 5 rfl PIn.nil))) h97, ?_⟩⟩
        by_cases hc98 : (eqB 32 x_96 x_9) = true
        ·
          replace hR := ifT hR hc98
          refine Plan.neArrV (b := true) FCurveForms.arrI23 rfl rfl rfl hc98 ?_
          refine Plan.pickFb rfl rfl rfl ?_
          refine Plan.move_bool rfl rfl ?_
          refine Plan.loadA1 h97 2 rfl rfl rfl FCurveForms.agg23 ?_
          refine Plan.loadA1 h97 1 rfl rfl rfl FCurveForms.agg23 ?_
          refine Plan.loadA1 h97 3 rfl rfl rfl FCurveForms.agg23 ?_
          obtain ⟨x_100, hr99, hR⟩ := hR
          refine Plan.call (vs := [AG [(32, fun q => VU .u8 (x_15 q))], AG [(32, fun q => VU .u8 ((upd u2 31 ((u2 31) ^^^ (128#8))) q))]]) rfl FCurveForms.call24 rfl (curve_Times_ok (iG0 := iG0 + 6) hG0 hr99 h97) ?_
          rintro _ w101 ⟨rfl, h101⟩
          refine ⟨_, rfl, .inl ⟨PIn.keep (PIn.cons 3 rfl (PIn.cons 1 rfl (PIn.cons 2 rfl (PIn.cons 3 rfl (PIn.cons 4 rfl (PIn.cons 5 rfl PIn.nil)))))) h101, ?_⟩⟩
          by_cases hc102 : (eqB 32 x_100 x_9) = true
          ·
            replace hR := ifT hR hc102
            refine Plan.neArrV (b := true) FCurveForms.arrI23 rfl rfl rfl hc102 ?_
            refine Plan.pickFb rfl rfl rfl ?_
            refine Plan.move_bool rfl rfl ?_
            refine Plan.loadA1 h101 2 rfl rfl rfl FCurveForms.agg23 ?_
            refine Plan.loadA1 h101 2 rfl rfl rfl FCurveForms.agg23 ?_
            obtain ⟨x_104, hr103, hR⟩ := hR
            refine Plan.call (vs := [AG [(32, fun q => VU .u8 (x_15 q))]]) rfl FCurveForms.call26 rfl (curve_Clamp_ok  hr103 h101) ?_
            rintro _ w105 ⟨rfl, h105⟩
            refine ⟨_, rfl, .inl ⟨PIn.keep (PIn.cons 2 rfl (PIn.cons 2 rfl (PIn.cons 3 rfl (PIn.cons 1 rfl (PIn.cons 2 rfl (PIn.cons 3 rfl (PIn.cons 4 rfl (PIn.cons 5 rfl PIn.nil)))))))) h105, ?_⟩⟩
            refine Plan.neArrV (b := (eqB 32 x_104 x_15)) FCurveForms.arrI23 rfl rfl rfl rfl ?_
            refine Plan.pickFb rfl rfl rfl ?_
            refine Plan.nil ?_
            refine hK92 _ _ ?_; clear hK92
            by_cases hc106 : (eqB 32 x_104 x_15) = true
            ·
              replace hR := ifT hR hc106
              refine W.condF (congrArg Value.bool (congrArg Bool.not hc106)) ?_
              refine W.skip ?_
              refine hK72 _ _ ?_; clear hK72
              refine W.seq_k fun K107 hK107 => ?_
              refine W.regionD FCurveForms.mixed [(0, true), (1, true), (3, true), (4, true), (5, true), (6, true), (2, false), (7, false), (8, true), (9, true)] (by kernel_rfl) ?_
              have h108 := h105.drew
              refine Plan.loadA1 h108 5 rfl rfl rfl FCurveForms.agg23 ?_
              refine Plan.loadA1 h108 0 rfl rfl rfl FCurveForms.agg23 ?_
              refine Plan.loadA1 h108 5 rfl rfl rfl FCurveForms.agg23 ?_
              refine Plan.move_int rfl rfl ?_
              refine Plan.convIU .u8 (a := n_33) FCurveForms.u5 FCurveForms.some3 rfl rfl ?_
              refine Plan.buildArr (ps := [(32, fun q => VU .u8 ((upd (fun _ => 0#8) 0 (BitVec.ofInt 8 n_33)) q))]) FCurveForms.arr23 FCurveForms.z23 rfl rfl rfl ?_
              obtain ⟨x_110, hr109, hR⟩ := hR
              refine Plan.call (vs := [AG [(32, fun q => VU .u8 ((upd (upd k1 0 ((k1 0) ^^^ (7#8))) 31 (((upd k1 0 ((k1 0) ^^^ (7#8))) 31) ^^^ (192#8))) q))], AG [(32, fun q => VU .u8 ((upd m56 0 (BitVec.ofInt 8 (237 + n_33))) q))]]) rfl FCurveForms.call24 rfl (curve_Times_ok (iG0 := iG0 + 6) hG0 hr109 h108) ?_
              rintro _ w111 ⟨rfl, h111⟩
              refine ⟨_, rfl, .inl ⟨PIn.keep (PIn.cons 5 rfl (PIn.cons 0 rfl (PIn.cons 5 rfl PIn.nil))) h111, ?_⟩⟩
              obtain ⟨x_113, hr112, hR⟩ := hR
              refine Plan.call (vs := [AG [(32, fun q => VU .u8 ((upd (upd k1 0 ((k1 0) ^^^ (7#8))) 31 (((upd k1 0 ((k1 0) ^^^ (7#8))) 31) ^^^ (192#8))) q))], AG [(32, fun q => VU .u8 ((upd (fun _ => 0#8) 0 (BitVec.ofInt 8 n_33)) q))]]) rfl FCurveForms.call24 rfl (curve_Times_ok (iG0 := iG0 + 6) hG0 hr112 h111) ?_
              rintro _ w114 ⟨rfl, h114⟩
              refine ⟨_, rfl, .inl ⟨PIn.keep (PIn.cons 5 rfl (PIn.cons 0 rfl (PIn.cons 5 rfl PIn.nil))) h114, ?_⟩⟩
              refine Plan.eqArrV (b := (eqB 32 x_110 x_113)) FCurveForms.arrI23 rfl rfl rfl rfl ?_
              refine Plan.assign_bool rfl rfl ?_
              refine Plan.nil ?_
              refine hK107 _ _ ?_; clear hK107
              refine W.ret (finR_ret ?_)
              have h115 := St.pickT (C := [_, _, _, _, _, _]) h114 [] (by decide)
              simp only [pick, List.filterMap_cons, List.filterMap_nil, List.getElem?_cons_zero, List.getElem?_cons_succ, List.cons_append, List.nil_append] at h115
              subst r
              refine RetOk.mk (.tmp_bool rfl .nil) ?_
              exact ⟨rfl, h115⟩
            ·
              replace hR := ifF hR hc106
              refine W.condT (congrArg Value.bool (congrArg Bool.not (Bool.eq_false_iff.2 hc106))) ?_
              refine W.seq_k fun K116 hK116 => ?_
              refine W.regionT [(0, true)] (by kernel_rfl) ?_
              refine Plan.assign_bool rfl rfl ?_
              refine Plan.nil ?_
              refine hK116 _ _ ?_; clear hK116
              refine W.ret (thenR_ret (finR_ret ?_))
              have h117 := St.pickT (C := [_, _, _, _, _, _]) h105 [] (by decide)
              simp only [pick, List.filterMap_cons, List.filterMap_nil, List.getElem?_cons_zero, List.getElem?_cons_succ, List.cons_append, List.nil_append] at h117
              subst r
              refine RetOk.mk (.tmp_bool rfl .nil) ?_
              exact ⟨rfl, h117⟩
          ·
            replace hR := ifF hR hc102
            refine Plan.neArrV (b := false) FCurveForms.arrI23 rfl rfl rfl (Bool.eq_false_iff.2 hc102) ?_
            refine Plan.pickFb rfl rfl rfl ?_
            refine Plan.move_bool rfl rfl ?_
            refine Plan.passed rfl ?_
            refine Plan.passed rfl ?_
            refine Plan.passed rfl ?_
            refine Plan.passed rfl ?_
            refine Plan.pickTb rfl rfl rfl ?_
            refine Plan.nil ?_
            refine hK92 _ _ ?_; clear hK92
            refine W.condT rfl ?_
            refine W.seq_k fun K118 hK118 => ?_
            refine W.regionT [(0, true)] (by kernel_rfl) ?_
            refine Plan.assign_bool rfl rfl ?_
            refine Plan.nil ?_
            refine hK118 _ _ ?_; clear hK118
            refine W.ret (thenR_ret (finR_ret ?_))
            have h119 := St.pickT (C := [_, _, _, _, _, _]) h101 [] (by decide)
            simp only [pick, List.filterMap_cons, List.filterMap_nil, List.getElem?_cons_zero, List.getElem?_cons_succ, List.cons_append, List.nil_append] at h119
            subst r
            refine RetOk.mk (.tmp_bool rfl .nil) ?_
            exact ⟨rfl, h119⟩
        ·
          replace hR := ifF hR hc98
          refine Plan.neArrV (b := false) FCurveForms.arrI23 rfl rfl rfl (Bool.eq_false_iff.2 hc98) ?_
          refine Plan.pickFb rfl rfl rfl ?_
          refine Plan.move_bool rfl rfl ?_
          refine Plan.passed rfl ?_
          refine Plan.passed rfl ?_
          refine Plan.passed rfl ?_
          refine Plan.passed rfl ?_
          refine Plan.passed rfl ?_
          refine Plan.pickTb rfl rfl rfl ?_
          refine Plan.move_bool rfl rfl ?_
          refine Plan.passed rfl ?_
          refine Plan.passed rfl ?_
          refine Plan.passed rfl ?_
          refine Plan.passed rfl ?_
          refine Plan.pickTb rfl rfl rfl ?_
          refine Plan.nil ?_
          refine hK92 _ _ ?_; clear hK92
          refine W.condT rfl ?_
          refine W.seq_k fun K120 hK120 => ?_
          refine W.regionT [(0, true)] (by kernel_rfl) ?_
          refine Plan.assign_bool rfl rfl ?_
          refine Plan.nil ?_
          refine hK120 _ _ ?_; clear hK120
          refine W.ret (thenR_ret (finR_ret ?_))
          have h121 := St.pickT (C := [_, _, _, _, _, _]) h97 [] (by decide)
          simp only [pick, List.filterMap_cons, List.filterMap_nil, List.getElem?_cons_zero, List.getElem?_cons_succ, List.cons_append, List.nil_append] at h121
          subst r
          refine RetOk.mk (.tmp_bool rfl .nil) ?_
          exact ⟨rfl, h121⟩
      ·
        replace hR := ifF hR hc94
        refine Plan.move_bool (b := false) rfl (congrArg Value.bool (Bool.eq_false_iff.2 hc94)) ?_
        refine Plan.notF rfl rfl ?_
        refine Plan.move_bool rfl rfl ?_
        refine Plan.passed rfl ?_
        refine Plan.passed rfl ?_
        refine Plan.passed rfl ?_
        refine Plan.passed rfl ?_
        refine Plan.passed rfl ?_
        refine Plan.pickTb rfl rfl rfl ?_
        refine Plan.move_bool rfl rfl ?_
        refine Plan.passed rfl ?_
        refine Plan.passed rfl ?_
        refine Plan.passed rfl ?_
        refine Plan.passed rfl ?_
        refine Plan.passed rfl ?_
        refine Plan.pickTb rfl rfl rfl ?_
        refine Plan.move_bool rfl rfl ?_
        refine Plan.passed rfl ?_
        refine Plan.passed rfl ?_
        refine Plan.passed rfl ?_
        refine Plan.passed rfl ?_
        refine Plan.pickTb rfl rfl rfl ?_
        refine Plan.nil ?_
        refine hK92 _ _ ?_; clear hK92
        refine W.condT rfl ?_
        refine W.seq_k fun K122 hK122 => ?_
        refine W.regionT [(0, true)] (by kernel_rfl) ?_
        refine Plan.assign_bool rfl rfl ?_
        refine Plan.nil ?_
        refine hK122 _ _ ?_; clear hK122
        refine W.ret (thenR_ret (finR_ret ?_))
        have h123 := St.pickT (C := [_, _, _, _, _, _]) h93 [] (by decide)
        simp only [pick, List.filterMap_cons, List.filterMap_nil, List.getElem?_cons_zero, List.getElem?_cons_succ, List.cons_append, List.nil_append] at h123
        subst r
        refine RetOk.mk (.tmp_bool rfl .nil) ?_
        exact ⟨rfl, h123⟩

end Go.Proofs.YtjblfkmmbpcpaaaDoor
