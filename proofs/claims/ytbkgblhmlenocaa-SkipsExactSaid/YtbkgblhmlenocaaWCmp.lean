/-
  WALKS of the package's functions, printed by this session's own program (auto.py).
-/
import Derived.Test.YtbkgblhmlenocaaProg
import Derived.Test.YtbkgblhmlenocaaEd
import Derived.Test.YtbkgblhmlenocaaRCmp
import Derived.Test.YtbkgblhmlenocaaEls
namespace Go.Proofs.Ytbkgblhmlenocaa
set_option linter.unusedSimpArgs false
set_option linter.unusedVariables false
set_option linter.unusedSectionVars false
open Go Go.LW
theorem FCmp.call118 : callB Try.prog 118 = true := by kernel_rfl
theorem FCmp.isl43 : ∃ el, Try.prog.underlying 43 = some (.slice el) := ⟨3, by kernel_rfl⟩
theorem FCmp.sl43 : slB Try.prog 43 1 = true := by kernel_rfl
theorem FCmp.sc3 : scalarT Try.prog 3 = true := by kernel_rfl

set_option maxRecDepth 8000 in
set_option maxHeartbeats 1000000 in
theorem cmp_isNaN_uint32_ok {B : Nat} {w0 : Base} {w : World} {L : List Rg} {x_1 : BitVec 32} {r : Bool} (hR : cmp_isNaN_uint32 x_1 r) (HST : St B w0 (L) w) :
    Calls Try.prog 118 #[VU .u32 x_1] w fun e w' => e = .returned (.bool r) ∧ St B w0 (L) w' := by
  refine W.enter 6 Try.func118 rfl rfl rfl ?_
  unfold cmp_isNaN_uint32 at hR
  refine W.seq_k fun K2 hK2 => ?_
  refine W.regionT [(0, true)] (by kernel_rfl) ?_
  refine Plan.assign_bool rfl rfl ?_
  refine Plan.nil ?_
  refine hK2 _ _ ?_; clear hK2
  refine W.seq_k fun K3 hK3 => ?_
  refine W.regionT [(0, true), (1, true), (2, true), (3, true)] (by kernel_rfl) ?_
  refine Plan.move_int rfl rfl ?_
  refine Plan.move_int rfl rfl ?_
  refine Plan.cmpP (a := (x_1.toNat : Int)) (b := (x_1.toNat : Int)) (p := x_1 ≠ x_1) rfl rfl rfl rfl icmp_neU ?_
  refine Plan.assign_bool rfl rfl ?_
  refine Plan.nil ?_
  refine hK3 _ _ ?_; clear hK3
  refine W.ret (finR_ret ?_)
  subst r
  refine RetOk.mk (.tmp_bool rfl .nil) ?_
  exact ⟨rfl, HST⟩


set_option maxRecDepth 8000 in
set_option maxHeartbeats 1000000 in
theorem cmp_Compare_uint32_ok {B : Nat} {w0 : Base} {w : World} {L : List Rg} {x_1 : BitVec 32} {y2 : BitVec 32} {r : Int} (hR : cmp_Compare_uint32 x_1 y2 r) (HST : St B w0 (L) w) :
    Calls Try.prog 93 #[VU .u32 x_1, VU .u32 y2] w fun e w' => e = .returned (.int .i64 r) ∧ St B w0 (L) w' := by
  refine W.enter 20 Try.func93 rfl rfl rfl ?_
  unfold cmp_Compare_uint32 at hR
  refine W.seq_k fun K3 hK3 => ?_
  refine W.regionT [(0, true)] (by kernel_rfl) ?_
  refine Plan.assign_int rfl rfl ?_
  refine Plan.nil ?_
  refine hK3 _ _ ?_; clear hK3
  refine W.seq_k fun K4 hK4 => ?_
  refine W.regionT [(0, true), (1, false), (2, true)] (by kernel_rfl) ?_
  refine Plan.move_int rfl rfl ?_
  obtain ⟨x_6, hr5, hR⟩ := hR
  refine Plan.call (vs := [VU .u32 x_1]) rfl FCmp.call118 rfl (cmp_isNaN_uint32_ok  hr5 HST) ?_
  rintro _ w7 ⟨rfl, h7⟩
  refine ⟨_, rfl, .inl ⟨PIn.keep (by exact PIn.nil) h7, ?_⟩⟩
  refine Plan.assign_bool rfl rfl ?_
  refine Plan.nil ?_
  refine hK4 _ _ ?_; clear hK4
  refine W.seq_k fun K8 hK8 => ?_
  refine W.regionT [(0, true), (1, false), (2, true)] (by kernel_rfl) ?_
  refine Plan.move_int rfl rfl ?_
  obtain ⟨x_10, hr9, hR⟩ := hR
  refine Plan.call (vs := [VU .u32 y2]) rfl FCmp.call118 rfl (cmp_isNaN_uint32_ok  hr9 h7) ?_
  rintro _ w11 ⟨rfl, h11⟩
  refine ⟨_, rfl, .inl ⟨PIn.keep (by exact PIn.nil) h11, ?_⟩⟩
  refine Plan.assign_bool rfl rfl ?_
  refine Plan.nil ?_
  refine hK8 _ _ ?_; clear hK8
  refine W.seq_k fun K12 hK12 => ?_
  refine W.seq_k fun K13 hK13 => ?_
  refine W.regionT [(0, true)] (by kernel_rfl) ?_
  refine Plan.move_bool rfl rfl ?_
  refine Plan.nil ?_
  refine hK13 _ _ ?_; clear hK13
  by_cases hc14 : x_6 = true
  ·
    replace hR := ifT hR hc14
    refine W.condT (congrArg Value.bool hc14) ?_
    refine W.seq_k fun K15 hK15 => ?_
    refine W.seq_k fun K16 hK16 => ?_
    refine W.regionT [(0, true)] (by kernel_rfl) ?_
    refine Plan.move_bool rfl rfl ?_
    refine Plan.nil ?_
    refine hK16 _ _ ?_; clear hK16
    by_cases hc17 : x_10 = true
    ·
      replace hR := ifT hR hc17
      refine W.condT (congrArg Value.bool hc17) ?_
      refine W.seq_k fun K18 hK18 => ?_
      refine W.regionT [(0, true)] (by kernel_rfl) ?_
      refine Plan.assign_int rfl rfl ?_
      refine Plan.nil ?_
      refine hK18 _ _ ?_; clear hK18
      refine W.ret (thenR_ret (thenR_ret (finR_ret ?_)))
      subst r
      refine RetOk.mk (.tmp_int rfl .nil) ?_
      exact ⟨rfl, h11⟩
    ·
      replace hR := ifF hR hc17
      refine W.condF (congrArg Value.bool (Bool.eq_false_iff.2 hc17)) ?_
      refine W.skip ?_
      refine hK15 _ _ ?_; clear hK15
      refine W.seq_k fun K19 hK19 => ?_
      refine W.regionT [(0, true)] (by kernel_rfl) ?_
      refine Plan.assign_int rfl rfl ?_
      refine Plan.nil ?_
      refine hK19 _ _ ?_; clear hK19
      refine W.ret (thenR_ret (finR_ret ?_))
      subst r
      refine RetOk.mk (.tmp_int rfl .nil) ?_
      exact ⟨rfl, h11⟩
  ·
    replace hR := ifF hR hc14
    refine W.condF (congrArg Value.bool (Bool.eq_false_iff.2 hc14)) ?_
    refine W.skip ?_
    refine hK12 _ _ ?_; clear hK12
    refine W.seq_k fun K20 hK20 => ?_
    refine W.seq_k fun K21 hK21 => ?_
    refine W.regionT [(0, true)] (by kernel_rfl) ?_
    refine Plan.move_bool rfl rfl ?_
    refine Plan.nil ?_
    refine hK21 _ _ ?_; clear hK21
    by_cases hc22 : x_10 = true
    ·
      replace hR := ifT hR hc22
      refine W.condT (congrArg Value.bool hc22) ?_
      refine W.seq_k fun K23 hK23 => ?_
      refine W.regionT [(0, true)] (by kernel_rfl) ?_
      refine Plan.assign_int rfl rfl ?_
      refine Plan.nil ?_
      refine hK23 _ _ ?_; clear hK23
      refine W.ret (thenR_ret (finR_ret ?_))
      subst r
      refine RetOk.mk (.tmp_int rfl .nil) ?_
      exact ⟨rfl, h11⟩
    ·
      replace hR := ifF hR hc22
      refine W.condF (congrArg Value.bool (Bool.eq_false_iff.2 hc22)) ?_
      refine W.skip ?_
      refine hK20 _ _ ?_; clear hK20
      refine W.seq_k fun K24 hK24 => ?_
      refine W.seq_k fun K25 hK25 => ?_
      refine W.regionT [(0, true), (1, true), (2, true)] (by kernel_rfl) ?_
      refine Plan.move_int rfl rfl ?_
      refine Plan.move_int rfl rfl ?_
      refine Plan.cmpP (a := (x_1.toNat : Int)) (b := (y2.toNat : Int)) (p := x_1.toNat < y2.toNat) rfl rfl rfl rfl icmp_ltN ?_
      refine Plan.nil ?_
      refine hK25 _ _ ?_; clear hK25
      by_cases hc26 : x_1.toNat < y2.toNat
      ·
        replace hR := ifT hR hc26
        refine W.condT (congrArg Value.bool (decide_eq_true hc26)) ?_
        refine W.seq_k fun K27 hK27 => ?_
        refine W.regionT [(0, true)] (by kernel_rfl) ?_
        refine Plan.assign_int rfl rfl ?_
        refine Plan.nil ?_
        refine hK27 _ _ ?_; clear hK27
        refine W.ret (thenR_ret (finR_ret ?_))
        subst r
        refine RetOk.mk (.tmp_int rfl .nil) ?_
        exact ⟨rfl, h11⟩
      ·
        replace hR := ifF hR hc26
        refine W.condF (congrArg Value.bool (decide_eq_false hc26)) ?_
        refine W.skip ?_
        refine hK24 _ _ ?_; clear hK24
        refine W.seq_k fun K28 hK28 => ?_
        refine W.seq_k fun K29 hK29 => ?_
        refine W.regionT [(0, true), (1, true), (2, true)] (by kernel_rfl) ?_
        refine Plan.move_int rfl rfl ?_
        refine Plan.move_int rfl rfl ?_
        refine Plan.cmpP (a := (x_1.toNat : Int)) (b := (y2.toNat : Int)) (p := y2.toNat < x_1.toNat) rfl rfl rfl rfl icmp_gtN ?_
        refine Plan.nil ?_
        refine hK29 _ _ ?_; clear hK29
        by_cases hc30 : y2.toNat < x_1.toNat
        ·
          replace hR := ifT hR hc30
          refine W.condT (congrArg Value.bool (decide_eq_true hc30)) ?_
          refine W.seq_k fun K31 hK31 => ?_
          refine W.regionT [(0, true)] (by kernel_rfl) ?_
          refine Plan.assign_int rfl rfl ?_
          refine Plan.nil ?_
          refine hK31 _ _ ?_; clear hK31
          refine W.ret (thenR_ret (finR_ret ?_))
          subst r
          refine RetOk.mk (.tmp_int rfl .nil) ?_
          exact ⟨rfl, h11⟩
        ·
          replace hR := ifF hR hc30
          refine W.condF (congrArg Value.bool (decide_eq_false hc30)) ?_
          refine W.skip ?_
          refine hK28 _ _ ?_; clear hK28
          refine W.seq_k fun K32 hK32 => ?_
          refine W.regionT [(0, true)] (by kernel_rfl) ?_
          refine Plan.assign_int rfl rfl ?_
          refine Plan.nil ?_
          refine hK32 _ _ ?_; clear hK32
          refine W.ret (finR_ret ?_)
          subst r
          refine RetOk.mk (.tmp_int rfl .nil) ?_
          exact ⟨rfl, h11⟩


set_option maxRecDepth 8000 in
set_option maxHeartbeats 1000000 in
theorem cmp_Or_int_ok {B : Nat} {w0 : Base} {w : World} {L : List Rg} {vals1 : List Int} {avals1 : Option Addr} {nvals1 cvals1 ivals1 : Nat} (hvals1 : LV D3 L ivals1 avals1 nvals1 cvals1 vals1) {r : Int} (hR : cmp_Or_int vals1 r) (HST : St B w0 (L) w) :
    Calls Try.prog 56 #[.slice avals1 nvals1 cvals1] w fun e w' => e = .returned (.int .i64 r) ∧ St B w0 (L) w' := by
  refine W.enter 18 Try.func56 rfl rfl rfl ?_
  unfold cmp_Or_int at hR
  have evals1 := hvals1.hl; subst evals1
  refine W.seq_k fun K2 hK2 => ?_
  refine W.regionT [(0, true)] (by kernel_rfl) ?_
  refine Plan.assign_int rfl rfl ?_
  refine Plan.nil ?_
  refine hK2 _ _ ?_; clear hK2
  refine W.seq_k fun K3 hK3 => ?_
  refine W.regionT [(0, true)] (by kernel_rfl) ?_
  refine Plan.assign_int rfl rfl ?_
  refine Plan.nil ?_
  refine hK3 _ _ ?_; clear hK3
  refine W.seq_k fun K4 hK4 => ?_
  refine W.seq_k fun K5 hK5 => ?_
  refine W.regionT [(0, true), (1, true), (2, true)] (by kernel_rfl) ?_
  refine Plan.move_slice rfl rfl ?_
  refine Plan.len FCmp.isl43 rfl rfl ?_
  refine Plan.move_int rfl rfl ?_
  refine Plan.nil ?_
  refine hK5 _ _ ?_; clear hK5
  obtain ⟨x29, hI29, hR029⟩ := hR
  refine W.cutN (fun e w => x29 = some () ∧ EnvHas e [(3, VN 0)] ∧ St B w0 (L) w) ?_ ?_
  ·
    refine W.block ?_
    refine W.iter hI29 (fun (s29 : Nat) e w => EnvHas e [(3, VN 0), (6, .slice avals1 vals1.length cvals1), (7, VN vals1.length), (8, VN s29)] ∧ St B w0 (L) w) ⟨(EnvHas.cons rfl (EnvHas.cons rfl (EnvHas.cons rfl (EnvHas.cons rfl EnvHas.nil)))), HST⟩ ?_
    rintro t28 o29 hR hx29 ev30 wl30 ⟨he30, h30⟩
    obtain ⟨ev30, rfl⟩ := he30.open
    unfold cmp_Or_int_l0 at hR
    refine W.seq_k fun K31 hK31 => ?_
    refine W.regionT [(0, true)] (by kernel_rfl) ?_
    refine Plan.cmpP (a := (((t28 : Nat) : Int) : Int)) (b := (((vals1.length : Nat) : Int) : Int)) (p := t28 < vals1.length) rfl rfl rfl rfl icmp_ltN ?_
    refine Plan.nil ?_
    refine hK31 _ _ ?_; clear hK31
    refine W.seq_k fun K32 hK32 => ?_
    by_cases hc33 : t28 < vals1.length
    ·
      replace hR := ifT hR hc33
      refine W.condT (congrArg Value.bool (decide_eq_true hc33)) ?_
      refine W.skip ?_
      refine hK32 _ _ ?_; clear hK32
      refine W.seq_k fun K34 hK34 => ?_
      refine W.block ?_
      refine W.seq_k fun K35 hK35 => ?_
      refine W.regionT [(0, true), (1, true), (2, true)] (by kernel_rfl) ?_
      obtain ⟨hc36, hR⟩ := hR
      refine Plan.idxLVS (D := D3) (j := t28) h30 hvals1 FCmp.sl43 rfl rfl rfl hc36 ?_
      refine Plan.loadLV1 (D := D3) (X := vals1) (j := t28) h30 (0 : Int) (fun _ x => .int .i64 x) hvals1 rfl rfl hc36 rfl (fun _ _ => rfl) FCmp.sc3 fun b37 r37 hs37 hr37 => ?_
      refine Plan.assign_int rfl rfl ?_
      refine Plan.nil ?_
      refine hK35 _ _ ?_; clear hK35
      refine W.seq_k fun K38 hK38 => ?_
      refine W.regionT [(0, true), (1, true), (2, true)] (by kernel_rfl) ?_
      refine Plan.move_int rfl rfl ?_
      refine Plan.move_int rfl rfl ?_
      refine Plan.cmpP (a := ((vals1.getD t28 (0 : Int)) : Int)) (b := (0 : Int)) (p := (vals1.getD t28 (0 : Int)) ≠ 0) rfl rfl rfl rfl icmp_ne ?_
      refine Plan.nil ?_
      refine hK38 _ _ ?_; clear hK38
      by_cases hc39 : (vals1.getD t28 (0 : Int)) ≠ 0
      ·
        replace hR := ifT hR hc39
        refine W.condT (congrArg Value.bool (decide_eq_true hc39)) ?_
        refine W.seq_k fun K40 hK40 => ?_
        refine W.regionT [(0, true), (1, true)] (by kernel_rfl) ?_
        refine Plan.move_int rfl rfl ?_
        refine Plan.assign_int rfl rfl ?_
        refine Plan.nil ?_
        refine hK40 _ _ ?_; clear hK40
        refine W.ret (blockR_ret (thenR_ret (iterR_ret (blockR_ret (thenR_ret (thenR_ret (finR_ret ?_)))))))
        replace hR := hR.2
        subst r
        refine RetOk.mk (.tmp_int rfl .nil) ?_
        exact ⟨rfl, h30⟩
      ·
        replace hR := ifF hR hc39
        refine W.condF (congrArg Value.bool (decide_eq_false hc39)) ?_
        refine W.skip ?_
        refine blockR_norm ?_
        refine hK34 _ _ ?_; clear hK34
        refine W.regionT [(0, true), (1, true)] (by kernel_rfl) ?_
        obtain ⟨hc41, hR⟩ := hR
        refine Plan.addN (a := t28) (b := 1) rfl rfl rfl (by omega) ?_
        refine Plan.move_int rfl rfl ?_
        refine Plan.nil ?_
        exact iterR_norm ⟨_, hR, (EnvHas.cons rfl (EnvHas.cons rfl (EnvHas.cons rfl (EnvHas.cons rfl EnvHas.nil)))), h30⟩
    ·
      replace hR := ifF hR hc33
      refine W.condF (congrArg Value.bool (decide_eq_false hc33)) ?_
      refine W.exit (thenR_exit (iterR_exit (blockR_here ?_)))
      exact ⟨(hx29 _ hR).symm, (EnvHas.cons rfl EnvHas.nil), h30⟩
  ·
    rintro ev42 wl42 ⟨hy42, he42, h42⟩
    obtain ⟨ev42, rfl⟩ := he42.open
    replace hR := hR029  hy42
    refine hK4 _ _ ?_; clear hK4
    refine W.seq_k fun K43 hK43 => ?_
    refine W.regionT [(0, true), (1, true)] (by kernel_rfl) ?_
    refine Plan.move_int rfl rfl ?_
    refine Plan.assign_int rfl rfl ?_
    refine Plan.nil ?_
    refine hK43 _ _ ?_; clear hK43
    refine W.ret (finR_ret ?_)
    subst r
    refine RetOk.mk (.tmp_int rfl .nil) ?_
    exact ⟨rfl, h42⟩

end Go.Proofs.Ytbkgblhmlenocaa
