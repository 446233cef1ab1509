/-
  WALKS of the package's functions, printed by this session's own program (auto.py).
-/
import Derived.Test.YtbkgblhmlenocaaProg
import Derived.Test.YtbkgblhmlenocaaEb
import Derived.Test.YtbkgblhmlenocaaRWire
import Derived.Test.YtbkgblhmlenocaaEls
namespace Go.Proofs.Ytbkgblhmlenocaa
set_option linter.unusedSimpArgs false
set_option linter.unusedVariables false
set_option linter.unusedSectionVars false
open Go Go.LW
theorem FWire.sc23 : scalarT Try.prog 23 = true := by kernel_rfl
theorem FWire.isl23 : ∃ el, Try.prog.underlying 23 = some (.slice el) := ⟨5, by kernel_rfl⟩
theorem FWire.sl23 : slB Try.prog 23 1 = true := by kernel_rfl
theorem FWire.isl61 : ∃ el, Try.prog.underlying 61 = some (.slice el) := ⟨23, by kernel_rfl⟩
theorem FWire.sl61 : slB Try.prog 61 1 = true := by kernel_rfl
theorem FWire.el23 : elD Try.prog 23 = some (1, 1, some (VU .u8 0#8)) := by kernel_rfl
theorem FWire.sc5 : scalarT Try.prog 5 = true := by kernel_rfl

set_option maxRecDepth 8000 in
set_option maxHeartbeats 1000000 in
theorem wire_Join_ok {B : Nat} {w0 w : World} {L : List Rg} {parts1 : List (List Byte)} {aparts1 : Option Addr} {nparts1 cparts1 iparts1 : Nat} (hparts1 : Bss L iparts1 aparts1 nparts1 cparts1 parts1) {r : (List Byte)} (hR : wire_Join parts1 r) (HST : St B w0 (L) w) :
    Calls Try.prog 88 #[.slice aparts1 nparts1 cparts1] w fun e w' => ∃ ay0 : Option Addr, ∃ py0 : Option Nat, ∃ ny0 : Nat, ∃ cy0 : Nat, ∃ Fy0 : Nat → Byte, e = .returned (.slice ay0 ny0 cy0) ∧ St B w0 (⟨py0, 0, cy0, fun q => VU .u8 (Fy0 q), true⟩ :: L) w' ∧ Ow ay0 py0 ny0 cy0 Fy0 r := by
  refine W.enter 33 Try.func88 rfl rfl rfl ?_
  unfold wire_Join at hR
  have eparts1 := hparts1.hl; subst eparts1
  refine W.seq_k fun K2 hK2 => ?_
  refine W.regionT [(0, true)] (by kernel_rfl) ?_
  refine Plan.assign_slice rfl rfl ?_
  refine Plan.nil ?_
  refine hK2 _ _ ?_; clear hK2
  refine W.seq_k fun K3 hK3 => ?_
  refine W.regionT [(0, true)] (by kernel_rfl) ?_
  refine Plan.assign_int rfl rfl ?_
  refine Plan.nil ?_
  refine hK3 _ _ ?_; clear hK3
  refine W.seq_k fun K4 hK4 => ?_
  refine W.seq_k fun K5 hK5 => ?_
  refine W.regionT [(0, true), (1, true), (2, true)] (by kernel_rfl) ?_
  refine Plan.move_slice rfl rfl ?_
  refine Plan.len FWire.isl61 rfl rfl ?_
  refine Plan.move_int rfl rfl ?_
  refine Plan.nil ?_
  refine hK5 _ _ ?_; clear hK5
  obtain ⟨n_27, hI28, hR028⟩ := hR
  refine W.cutN (fun e w => ∃ y_n_27 : Nat, n_27 = y_n_27 ∧ EnvHas e [(0, .slice aparts1 parts1.length cparts1), (3, VN y_n_27)] ∧ St B w0 (L) w) ?_ ?_
  ·
    refine W.block ?_
    refine W.iter hI28 (fun (s28 : (Nat × Nat)) e w => EnvHas e [(0, .slice aparts1 parts1.length cparts1), (3, VN s28.1), (9, .slice aparts1 parts1.length cparts1), (10, VN parts1.length), (11, VN s28.2)] ∧ St B w0 (L) w) ⟨(EnvHas.cons rfl (EnvHas.cons rfl (EnvHas.cons rfl (EnvHas.cons rfl (EnvHas.cons rfl EnvHas.nil))))), HST⟩ ?_
    rintro ⟨n_25, t26⟩ o28 hR hx28 ev29 wl29 ⟨he29, h29⟩
    obtain ⟨ev29, rfl⟩ := he29.open
    unfold wire_Join_l0 at hR
    refine W.seq_k fun K30 hK30 => ?_
    refine W.regionT [(0, true)] (by kernel_rfl) ?_
    refine Plan.cmpP (a := (((t26 : Nat) : Int) : Int)) (b := (((parts1.length : Nat) : Int) : Int)) (p := t26 < parts1.length) rfl rfl rfl rfl icmp_ltN ?_
    refine Plan.nil ?_
    refine hK30 _ _ ?_; clear hK30
    refine W.seq_k fun K31 hK31 => ?_
    by_cases hc32 : t26 < parts1.length
    ·
      replace hR := ifT hR hc32
      refine W.condT (congrArg Value.bool (decide_eq_true hc32)) ?_
      refine W.skip ?_
      refine hK31 _ _ ?_; clear hK31
      refine W.seq_k fun K33 hK33 => ?_
      refine W.block ?_
      refine W.seq_k fun K34 hK34 => ?_
      refine W.regionT [(0, true), (1, true), (2, true)] (by kernel_rfl) ?_
      obtain ⟨hc35, hR⟩ := hR
      refine Plan.idxBss (j := t26) hparts1 FWire.sl61 rfl rfl rfl hc35 ?_
      refine Plan.loadBss (D := []) (j := t26) h29 hparts1 rfl rfl hc35 FWire.sc23 fun r36 i36 a36 c36 hr36 hv36 => ?_
      refine Plan.assign_slice rfl rfl ?_
      refine Plan.nil ?_
      refine hK34 _ _ ?_; clear hK34
      refine W.regionT [(0, true), (1, true), (2, true), (3, true), (4, true)] (by kernel_rfl) ?_
      refine Plan.move_int rfl rfl ?_
      refine Plan.move_slice rfl rfl ?_
      refine Plan.len FWire.isl23 rfl rfl ?_
      obtain ⟨hc37, hR⟩ := hR
      refine Plan.addN (a := n_25) (b := (parts1.getD t26 []).length) rfl rfl rfl (by omega) ?_
      refine Plan.assign_int rfl rfl ?_
      refine Plan.nil ?_
      refine blockR_norm ?_
      refine hK33 _ _ ?_; clear hK33
      refine W.regionT [(0, true), (1, true)] (by kernel_rfl) ?_
      obtain ⟨hc38, hR⟩ := hR
      refine Plan.addN (a := t26) (b := 1) rfl rfl rfl (by omega) ?_
      refine Plan.move_int rfl rfl ?_
      refine Plan.nil ?_
      exact iterR_norm ⟨_, hR, (EnvHas.cons rfl (EnvHas.cons rfl (EnvHas.cons rfl (EnvHas.cons rfl (EnvHas.cons rfl EnvHas.nil))))), h29⟩
    ·
      replace hR := ifF hR hc32
      refine W.condF (congrArg Value.bool (decide_eq_false hc32)) ?_
      refine W.exit (thenR_exit (iterR_exit (blockR_here ?_)))
      exact ⟨n_25, (hx28 _ hR).symm, (EnvHas.cons rfl (EnvHas.cons rfl EnvHas.nil)), h29⟩
  ·
    rintro ev39 wl39 ⟨y_n_27, hy39, he39, h39⟩
    obtain ⟨ev39, rfl⟩ := he39.open
    subst hy39
    replace hR := hR028
    refine hK4 _ _ ?_; clear hK4
    refine W.seq_k fun K40 hK40 => ?_
    refine W.regionT [(0, true), (1, false), (2, true)] (by kernel_rfl) ?_
    refine Plan.move_int rfl rfl ?_
    obtain ⟨hc42, hR⟩ := hR
    refine Plan.makeO (len := 0) (c := n_27) h39 FWire.el23 rfl rfl rfl hc42.1 hc42.2 (fun _ => EffO.keep PIn.nil) fun b41 w41 hb41 ho41 h41 => ?_
    refine Plan.assign_slice rfl rfl ?_
    refine Plan.nil ?_
    refine hK40 _ _ ?_; clear hK40
    refine W.seq_k fun K43 hK43 => ?_
    refine W.seq_k fun K44 hK44 => ?_
    refine W.regionT [(0, true), (1, true), (2, true)] (by kernel_rfl) ?_
    refine Plan.move_slice rfl rfl ?_
    refine Plan.len FWire.isl61 rfl rfl ?_
    refine Plan.move_int rfl rfl ?_
    refine Plan.nil ?_
    refine hK44 _ _ ?_; clear hK44
    obtain ⟨out69, hI70, hR070⟩ := hR
    refine W.cutN (fun e w => ∃ y_out69 : List Byte, out69 = y_out69 ∧ ∃ aout69 : Option Addr, ∃ pout69 : Option Nat, ∃ cout69 : Nat, ∃ Fout69 : Nat → Byte, EnvHas e [(6, .slice aout69 y_out69.length cout69)] ∧ St B w0 (⟨pout69, 0, cout69, fun q => VU .u8 (Fout69 q), true⟩ :: L) w ∧ Ow aout69 pout69 y_out69.length cout69 Fout69 y_out69) ?_ ?_
    ·
      refine W.block ?_
      refine W.iter hI70 (fun (s70 : ((List Byte) × Nat)) e w => ∃ aout67 : Option Addr, ∃ pout67 : Option Nat, ∃ cout67 : Nat, ∃ Fout67 : Nat → Byte, EnvHas e [(6, .slice aout67 s70.1.length cout67), (22, .slice aparts1 parts1.length cparts1), (23, VN parts1.length), (24, VN s70.2)] ∧ St B w0 (⟨pout67, 0, cout67, fun q => VU .u8 (Fout67 q), true⟩ :: L) w ∧ Ow aout67 pout67 s70.1.length cout67 Fout67 s70.1) ⟨some ⟨b41, 0, none⟩, some b41, n_27, (fun _ => 0#8), (EnvHas.cons rfl (EnvHas.cons rfl (EnvHas.cons rfl (EnvHas.cons rfl EnvHas.nil)))), h41, ho41⟩ ?_
      rintro ⟨out67, t68⟩ o70 hR hx70 ev71 wl71 ⟨aout67, pout67, cout67, Fout67, he71, h71, hout67⟩
      obtain ⟨ev71, rfl⟩ := he71.open
      unfold wire_Join_l1 at hR
      refine W.seq_k fun K72 hK72 => ?_
      refine W.regionT [(0, true)] (by kernel_rfl) ?_
      refine Plan.cmpP (a := (((t68 : Nat) : Int) : Int)) (b := (((parts1.length : Nat) : Int) : Int)) (p := t68 < parts1.length) rfl rfl rfl rfl icmp_ltN ?_
      refine Plan.nil ?_
      refine hK72 _ _ ?_; clear hK72
      refine W.seq_k fun K73 hK73 => ?_
      by_cases hc74 : t68 < parts1.length
      ·
        replace hR := ifT hR hc74
        refine W.condT (congrArg Value.bool (decide_eq_true hc74)) ?_
        refine W.skip ?_
        refine hK73 _ _ ?_; clear hK73
        refine W.seq_k fun K75 hK75 => ?_
        refine W.block ?_
        refine W.seq_k fun K76 hK76 => ?_
        refine W.regionT [(0, true), (1, true), (2, true)] (by kernel_rfl) ?_
        obtain ⟨hc77, hR⟩ := hR
        refine Plan.idxBss (j := t68) hparts1 FWire.sl61 rfl rfl rfl hc77 ?_
        refine Plan.loadBss (D := [_]) (j := t68) h71 hparts1 rfl rfl hc77 FWire.sc23 fun r78 i78 a78 c78 hr78 hv78 => ?_
        refine Plan.assign_slice rfl rfl ?_
        refine Plan.nil ?_
        refine hK76 _ _ ?_; clear hK76
        refine W.regionT [(0, true), (1, true), (2, false), (3, true)] (by kernel_rfl) ?_
        refine Plan.move_slice rfl rfl ?_
        refine Plan.move_slice rfl rfl ?_
        obtain ⟨hc80, hR⟩ := hR
        refine Plan.appendO (X := out67) (Y := (parts1.getD t68 [])) h71 0 hout67 FWire.el23 FWire.sl23 rfl rfl rfl rfl (hv78.app [_]) hc80 (fun _ => EffO.keep PIn.nil) fun a79 pb79 cap79 F79 w79 ho79 h79 => ?_
        simp only [List.cons_append, List.nil_append, List.set_cons_zero, List.set_cons_succ] at h79
        refine Plan.assign_slice rfl rfl ?_
        refine Plan.nil ?_
        refine blockR_norm ?_
        refine hK75 _ _ ?_; clear hK75
        refine W.regionT [(0, true), (1, true)] (by kernel_rfl) ?_
        obtain ⟨hc81, hR⟩ := hR
        refine Plan.addN (a := t68) (b := 1) rfl rfl rfl (by omega) ?_
        refine Plan.move_int rfl rfl ?_
        refine Plan.nil ?_
        exact iterR_norm ⟨_, hR, a79, pb79, cap79, F79, (EnvHas.cons rfl (EnvHas.cons rfl (EnvHas.cons rfl (EnvHas.cons rfl EnvHas.nil)))), h79, ho79⟩
      ·
        replace hR := ifF hR hc74
        refine W.condF (congrArg Value.bool (decide_eq_false hc74)) ?_
        refine W.exit (thenR_exit (iterR_exit (blockR_here ?_)))
        exact ⟨out67, (hx70 _ hR).symm, aout67, pout67, cout67, Fout67, (EnvHas.cons rfl EnvHas.nil), h71, hout67⟩
    ·
      rintro ev82 wl82 ⟨y_out69, hy82, aout69, pout69, cout69, Fout69, he82, h82, hout69⟩
      obtain ⟨ev82, rfl⟩ := he82.open
      subst hy82
      replace hR := hR070
      refine hK43 _ _ ?_; clear hK43
      refine W.seq_k fun K83 hK83 => ?_
      refine W.regionT [(0, true), (1, true)] (by kernel_rfl) ?_
      refine Plan.move_slice rfl rfl ?_
      refine Plan.assign_slice rfl rfl ?_
      refine Plan.nil ?_
      refine hK83 _ _ ?_; clear hK83
      refine W.ret (finR_ret ?_)
      subst r
      refine RetOk.mk (.tmp_slice rfl .nil) ?_
      exact ⟨aout69, pout69, out69.length, cout69, Fout69, rfl, h82, hout69⟩


set_option maxRecDepth 8000 in
set_option maxHeartbeats 1000000 in
theorem wire_Blank_ok {B : Nat} {w0 w : World} {L : List Rg} {b1 : List Byte} {ab1 : Option Addr} {nb1 cb1 ib1 : Nat} (hb1 : Bx L ib1 ab1 nb1 cb1 b1) {r : Bool} (hR : wire_Blank b1 r) (HST : St B w0 (L) w) :
    Calls Try.prog 65 #[.slice ab1 nb1 cb1] w fun e w' => e = .returned (.bool r) ∧ St B w0 (L) w' := by
  refine W.enter 18 Try.func65 rfl rfl rfl ?_
  unfold wire_Blank at hR
  have eb1 := hb1.hl; subst eb1
  refine W.seq_k fun K2 hK2 => ?_
  refine W.regionT [(0, true)] (by kernel_rfl) ?_
  refine Plan.assign_bool rfl rfl ?_
  refine Plan.nil ?_
  refine hK2 _ _ ?_; clear hK2
  refine W.seq_k fun K3 hK3 => ?_
  refine W.regionT [(0, true)] (by kernel_rfl) ?_
  refine Plan.assign_int rfl rfl ?_
  refine Plan.nil ?_
  refine hK3 _ _ ?_; clear hK3
  refine W.seq_k fun K4 hK4 => ?_
  refine W.seq_k fun K5 hK5 => ?_
  refine W.regionT [(0, true), (1, true), (2, true)] (by kernel_rfl) ?_
  refine Plan.move_slice rfl rfl ?_
  refine Plan.len FWire.isl23 rfl rfl ?_
  refine Plan.move_int rfl rfl ?_
  refine Plan.nil ?_
  refine hK5 _ _ ?_; clear hK5
  obtain ⟨x_25, hI26, hR026⟩ := hR
  refine W.cutN (fun e w => ∃ y_x_25 : BitVec 8, x_25 = y_x_25 ∧ EnvHas e [(3, VU .u8 y_x_25)] ∧ St B w0 (L) w) ?_ ?_
  ·
    refine W.block ?_
    refine W.iter hI26 (fun (s26 : ((BitVec 8) × Nat)) e w => EnvHas e [(3, VU .u8 s26.1), (6, .slice ab1 b1.length cb1), (7, VN b1.length), (8, VN s26.2)] ∧ St B w0 (L) w) ⟨(EnvHas.cons rfl (EnvHas.cons rfl (EnvHas.cons rfl (EnvHas.cons rfl EnvHas.nil)))), HST⟩ ?_
    rintro ⟨x_23, t24⟩ o26 hR hx26 ev27 wl27 ⟨he27, h27⟩
    obtain ⟨ev27, rfl⟩ := he27.open
    unfold wire_Blank_l0 at hR
    refine W.seq_k fun K28 hK28 => ?_
    refine W.regionT [(0, true)] (by kernel_rfl) ?_
    refine Plan.cmpP (a := (((t24 : Nat) : Int) : Int)) (b := (((b1.length : Nat) : Int) : Int)) (p := t24 < b1.length) rfl rfl rfl rfl icmp_ltN ?_
    refine Plan.nil ?_
    refine hK28 _ _ ?_; clear hK28
    refine W.seq_k fun K29 hK29 => ?_
    by_cases hc30 : t24 < b1.length
    ·
      replace hR := ifT hR hc30
      refine W.condT (congrArg Value.bool (decide_eq_true hc30)) ?_
      refine W.skip ?_
      refine hK29 _ _ ?_; clear hK29
      refine W.seq_k fun K31 hK31 => ?_
      refine W.block ?_
      refine W.seq_k fun K32 hK32 => ?_
      refine W.regionT [(0, true), (1, true), (2, true)] (by kernel_rfl) ?_
      obtain ⟨hc33, hR⟩ := hR
      refine Plan.idxVS (j := t24) h27 hb1 FWire.sl23 rfl rfl rfl hc33 ?_
      refine Plan.loadV (j := t24) h27 hb1 rfl rfl hc33 FWire.sc5 fun r34 hr34 => ?_
      refine Plan.assign_int rfl rfl ?_
      refine Plan.nil ?_
      refine hK32 _ _ ?_; clear hK32
      refine W.regionT [(0, true), (1, true), (2, true), (3, true)] (by kernel_rfl) ?_
      refine Plan.move_int rfl rfl ?_
      refine Plan.move_int rfl rfl ?_
      refine Plan.orU .u8 (X := x_23) (Y := (lit b1 t24)) rfl rfl rfl ?_
      refine Plan.assign_int rfl rfl ?_
      refine Plan.nil ?_
      refine blockR_norm ?_
      refine hK31 _ _ ?_; clear hK31
      refine W.regionT [(0, true), (1, true)] (by kernel_rfl) ?_
      obtain ⟨hc35, hR⟩ := hR
      refine Plan.addN (a := t24) (b := 1) rfl rfl rfl (by omega) ?_
      refine Plan.move_int rfl rfl ?_
      refine Plan.nil ?_
      exact iterR_norm ⟨_, hR, (EnvHas.cons rfl (EnvHas.cons rfl (EnvHas.cons rfl (EnvHas.cons rfl EnvHas.nil)))), h27⟩
    ·
      replace hR := ifF hR hc30
      refine W.condF (congrArg Value.bool (decide_eq_false hc30)) ?_
      refine W.exit (thenR_exit (iterR_exit (blockR_here ?_)))
      exact ⟨x_23, (hx26 _ hR).symm, (EnvHas.cons rfl EnvHas.nil), h27⟩
  ·
    rintro ev36 wl36 ⟨y_x_25, hy36, he36, h36⟩
    obtain ⟨ev36, rfl⟩ := he36.open
    subst hy36
    replace hR := hR026
    refine hK4 _ _ ?_; clear hK4
    refine W.seq_k fun K37 hK37 => ?_
    refine W.regionT [(0, true), (1, true), (2, true)] (by kernel_rfl) ?_
    refine Plan.move_int rfl rfl ?_
    refine Plan.cmpP (a := (x_25.toNat : Int)) (b := ((0#8).toNat : Int)) (p := x_25 = 0#8) rfl rfl rfl rfl icmp_eqU ?_
    refine Plan.assign_bool rfl rfl ?_
    refine Plan.nil ?_
    refine hK37 _ _ ?_; clear hK37
    refine W.ret (finR_ret ?_)
    subst r
    refine RetOk.mk (.tmp_bool rfl .nil) ?_
    exact ⟨rfl, h36⟩

end Go.Proofs.Ytbkgblhmlenocaa
