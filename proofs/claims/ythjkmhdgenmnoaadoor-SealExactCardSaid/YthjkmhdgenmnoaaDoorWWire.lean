/-
 WALKS of the package's functions, printed by this session's own program (auto.py).
-/
import Derived.Test.YthjkmhdgenmnoaaDoorProg
import Derived.Test.YthjkmhdgenmnoaaDoorEc
import Derived.Test.YthjkmhdgenmnoaaDoorRWire
import Derived.Test.YthjkmhdgenmnoaaDoorEls
namespace Go.Proofs.YthjkmhdgenmnoaaDoor
set_option linter.unusedSimpArgs false
set_option linter.unusedVariables false
set_option linter.unusedSectionVars false
set_option maxRecDepth 8000
set_option maxHeartbeats 1000000
open Go Go.LW
theorem FWire.mixed : Tryd.prog.follows .mixedOrders = true := by kernel_rfl
theorem FWire.sc24 : scalarT Tryd.prog 24 = true := by kernel_rfl
theorem FWire.el24 : elD Tryd.prog 24 = some (1, 1, some (VU .u8 0#8)) := by kernel_rfl
theorem FWire.sl24 : slB Tryd.prog 24 1 = true := by kernel_rfl
theorem FWire.isl24 : ∃ el, Tryd.prog.underlying 24 = some (.slice el) := ⟨5, by kernel_rfl⟩
theorem FWire.isl40 : ∃ el, Tryd.prog.underlying 40 = some (.slice el) := ⟨24, by kernel_rfl⟩
theorem FWire.sl40 : slB Tryd.prog 40 1 = true := by kernel_rfl
theorem FWire.sc5 : scalarT Tryd.prog 5 = true := by kernel_rfl
theorem wire_Join_ok {B : Nat} {w0 w : World} {L : List Rg} {parts1 : List (List Byte)} {aparts1 : Option Addr} {nparts1 cparts1 iparts1 : Nat} (hparts1 : Bss L iparts1 aparts1 nparts1 cparts1 parts1) {r : (List Byte)} (hR : wire_Join parts1 r) (HST : St B w0 (L) w) :
  Calls Tryd.prog 22 #[.slice aparts1 nparts1 cparts1] w fun e w' => ∃ ay0 : Option Addr, ∃ py0 : Option Nat, ∃ ny0 : Nat, ∃ cy0 : Nat, ∃ Fy0 : Nat → Byte, e = .returned (.slice ay0 ny0 cy0) ∧ St B w0 (⟨py0, 0, cy0, fun q => VU .u8 (Fy0 q), true⟩ :: L) w' ∧ Ow ay0 py0 ny0 cy0 Fy0 r := by
 refine W.enter 33 Tryd.func22 rfl rfl rfl ?_
 unfold wire_Join at hR
 have eparts1 := hparts1.hl; subst eparts1
 refine W.seq_k fun _ k2 => W.regionT [(0, true)] (by kernel_rfl) ?_
 refine Plan.assign_slice rfl rfl <| Plan.nil (k2 _ _ ?_); clear k2
 refine W.seq_k fun _ k3 => W.regionT [(0, true)] (by kernel_rfl) ?_
 refine Plan.assign_int rfl rfl <| Plan.nil (k3 _ _ ?_); clear k3
 refine W.seq_k fun _ k4 => W.seq_k fun _ k5 => ?_
 refine W.regionT [(0, true), (1, true), (2, true)] (by kernel_rfl) ?_
 refine Plan.move_slice rfl rfl <| Plan.len FWire.isl40 rfl rfl <| Plan.move_int rfl rfl <| Plan.nil (k5 _ _ ?_); clear k5
 obtain ⟨n_27, hI28, hR028⟩ := hR
 refine W.cutN (fun e w => ∃ y_n_27 : Nat, n_27 = y_n_27 ∧ EnvHas e [(0, .slice aparts1 parts1.length cparts1), (3, VN y_n_27)] ∧ St B w0 (L) w) ?_ ?_
 ·
  refine W.block ?_
  refine W.iter hI28 (fun (s28 : (Nat × Nat)) e w => EnvHas e [(0, .slice aparts1 parts1.length cparts1), (3, VN s28.1), (9, .slice aparts1 parts1.length cparts1), (10, VN parts1.length), (11, VN s28.2)] ∧ St B w0 (L) w) ⟨(zer (zer (zer (zer (zer zen))))), HST⟩ ?_
  rintro ⟨n_25, t26⟩ o28 hR hx28 ev29 wl29 ⟨he29, h29⟩
  obtain ⟨ev29, rfl⟩ := he29.open
  unfold wire_Join_l0 at hR
  refine W.seq_k fun _ k30 => W.regionT [(0, true)] (by kernel_rfl) ?_
  refine Plan.cmpP (a := (((t26 : Nat) : Int) : Int)) (b := (((parts1.length : Nat) : Int) : Int)) (p := t26 < parts1.length) rfl rfl rfl rfl icmp_ltN <| Plan.nil (k30 _ _ ?_); clear k30
  refine W.seq_k fun _ k31 => ?_
  by_cases hc32 : t26 < parts1.length
  ·
   replace hR := ifT hR hc32
   refine W.condT (congrArg Value.bool (decide_eq_true hc32)) ?_
   refine W.skip ?_
   refine k31 _ _ ?_; clear k31
   refine W.seq_k fun _ k33 => ?_
   refine W.block ?_
   refine W.seq_k fun _ k34 => W.regionT [(0, true), (1, true), (2, true)] (by kernel_rfl) ?_
   obtain ⟨hc35, hR⟩ := hR
   refine Plan.idxBss (j := t26) hparts1 FWire.sl40 rfl rfl rfl hc35 ?_
   refine Plan.loadBss (D := []) (j := t26) h29 hparts1 rfl rfl hc35 FWire.sc24 fun r36 i36 a36 c36 hr36 hv36 => ?_
   refine Plan.assign_slice rfl rfl <| Plan.nil (k34 _ _ ?_); clear k34
   refine W.regionT [(0, true), (1, true), (2, true), (3, true), (4, true)] (by kernel_rfl) ?_
   refine Plan.move_int rfl rfl <| Plan.move_slice rfl rfl <| Plan.len FWire.isl24 rfl rfl ?_
   obtain ⟨hc37, hR⟩ := hR
   refine Plan.addN (a := n_25) (b := (parts1.getD t26 []).length) rfl rfl rfl (by omega) <| Plan.assign_int rfl rfl <| Plan.nil ?_
   refine blockR_norm ?_
   refine k33 _ _ ?_; clear k33
   refine W.regionT [(0, true), (1, true)] (by kernel_rfl) ?_
   obtain ⟨hc38, hR⟩ := hR
   refine Plan.addN (a := t26) (b := 1) rfl rfl rfl (by omega) <| Plan.move_int rfl rfl <| Plan.nil ?_
   exact iterR_norm ⟨_, hR, (zer (zer (zer (zer (zer zen))))), h29⟩
  ·
   replace hR := ifF hR hc32
   refine W.condF (congrArg Value.bool (decide_eq_false hc32)) ?_
   refine W.exit (thenR_exit (iterR_exit (blockR_here ?_)))
   exact ⟨n_25, (hx28 _ hR).symm, (zer (zer zen)), h29⟩
 ·
  rintro ev39 wl39 ⟨y_n_27, hy39, he39, h39⟩
  obtain ⟨ev39, rfl⟩ := he39.open
  subst hy39
  replace hR := hR028
  refine k4 _ _ ?_; clear k4
  refine W.seq_k fun _ k40 => W.regionT [(0, true), (1, false), (2, true)] (by kernel_rfl) ?_
  refine Plan.move_int rfl rfl ?_
  obtain ⟨hc42, hR⟩ := hR
  refine Plan.makeO (len := 0) (c := n_27) h39 FWire.el24 rfl rfl rfl hc42.1 hc42.2 (fun _ => EffO.keep PIn.nil) fun b41 w41 hb41 ho41 h41 => ?_
  refine Plan.assign_slice rfl rfl <| Plan.nil (k40 _ _ ?_); clear k40
  refine W.seq_k fun _ k43 => W.seq_k fun _ k44 => ?_
  refine W.regionT [(0, true), (1, true), (2, true)] (by kernel_rfl) ?_
  refine Plan.move_slice rfl rfl <| Plan.len FWire.isl40 rfl rfl <| Plan.move_int rfl rfl <| Plan.nil (k44 _ _ ?_); clear k44
  obtain ⟨out69, hI70, hR070⟩ := hR
  refine W.cutN (fun e w => ∃ y_out69 : List Byte, out69 = y_out69 ∧ ∃ aout69 : Option Addr, ∃ pout69 : Option Nat, ∃ cout69 : Nat, ∃ Fout69 : Nat → Byte, EnvHas e [(6, .slice aout69 y_out69.length cout69)] ∧ St B w0 (⟨pout69, 0, cout69, fun q => VU .u8 (Fout69 q), true⟩ :: L) w ∧ Ow aout69 pout69 y_out69.length cout69 Fout69 y_out69) ?_ ?_
  ·
   refine W.block ?_
   refine W.iter hI70 (fun (s70 : ((List Byte) × Nat)) e w => ∃ aout67 : Option Addr, ∃ pout67 : Option Nat, ∃ cout67 : Nat, ∃ Fout67 : Nat → Byte, EnvHas e [(6, .slice aout67 s70.1.length cout67), (22, .slice aparts1 parts1.length cparts1), (23, VN parts1.length), (24, VN s70.2)] ∧ St B w0 (⟨pout67, 0, cout67, fun q => VU .u8 (Fout67 q), true⟩ :: L) w ∧ Ow aout67 pout67 s70.1.length cout67 Fout67 s70.1) ⟨some ⟨b41, 0, none⟩, some b41, n_27, (fun _ => 0#8), (zer (zer (zer (zer zen)))), h41, ho41⟩ ?_
   rintro ⟨out67, t68⟩ o70 hR hx70 ev71 wl71 ⟨aout67, pout67, cout67, Fout67, he71, h71, hout67⟩
   obtain ⟨ev71, rfl⟩ := he71.open
   unfold wire_Join_l1 at hR
   refine W.seq_k fun _ k72 => W.regionT [(0, true)] (by kernel_rfl) ?_
   refine Plan.cmpP (a := (((t68 : Nat) : Int) : Int)) (b := (((parts1.length : Nat) : Int) : Int)) (p := t68 < parts1.length) rfl rfl rfl rfl icmp_ltN <| Plan.nil (k72 _ _ ?_); clear k72
   refine W.seq_k fun _ k73 => ?_
   by_cases hc74 : t68 < parts1.length
   ·
    replace hR := ifT hR hc74
    refine W.condT (congrArg Value.bool (decide_eq_true hc74)) ?_
    refine W.skip ?_
    refine k73 _ _ ?_; clear k73
    refine W.seq_k fun _ k75 => ?_
    refine W.block ?_
    refine W.seq_k fun _ k76 => W.regionT [(0, true), (1, true), (2, true)] (by kernel_rfl) ?_
    obtain ⟨hc77, hR⟩ := hR
    refine Plan.idxBss (j := t68) hparts1 FWire.sl40 rfl rfl rfl hc77 ?_
    refine Plan.loadBss (D := [_]) (j := t68) h71 hparts1 rfl rfl hc77 FWire.sc24 fun r78 i78 a78 c78 hr78 hv78 => ?_
    refine Plan.assign_slice rfl rfl <| Plan.nil (k76 _ _ ?_); clear k76
    refine W.regionT [(0, true), (1, true), (2, false), (3, true)] (by kernel_rfl) ?_
    refine Plan.move_slice rfl rfl <| Plan.move_slice rfl rfl ?_
    obtain ⟨hc80, hR⟩ := hR
    refine Plan.appendO (X := out67) (Y := (parts1.getD t68 [])) h71 0 hout67 FWire.el24 FWire.sl24 rfl rfl rfl rfl (hv78.app [_]) hc80 (fun _ => EffO.keep PIn.nil) fun a79 pb79 cap79 F79 w79 ho79 h79 => ?_
    simp only [zca, zna, zsz, zss] at h79
    refine Plan.assign_slice rfl rfl <| Plan.nil ?_
    refine blockR_norm ?_
    refine k75 _ _ ?_; clear k75
    refine W.regionT [(0, true), (1, true)] (by kernel_rfl) ?_
    obtain ⟨hc81, hR⟩ := hR
    refine Plan.addN (a := t68) (b := 1) rfl rfl rfl (by omega) <| Plan.move_int rfl rfl <| Plan.nil ?_
    exact iterR_norm ⟨_, hR, a79, pb79, cap79, F79, (zer (zer (zer (zer zen)))), h79, ho79⟩
   ·
    replace hR := ifF hR hc74
    refine W.condF (congrArg Value.bool (decide_eq_false hc74)) ?_
    refine W.exit (thenR_exit (iterR_exit (blockR_here ?_)))
    exact ⟨out67, (hx70 _ hR).symm, aout67, pout67, cout67, Fout67, (zer zen), h71, hout67⟩
  ·
   rintro ev82 wl82 ⟨y_out69, hy82, aout69, pout69, cout69, Fout69, he82, h82, hout69⟩
   obtain ⟨ev82, rfl⟩ := he82.open
   subst hy82
   replace hR := hR070
   refine k43 _ _ ?_; clear k43
   refine W.seq_k fun _ k83 => W.regionT [(0, true), (1, true)] (by kernel_rfl) ?_
   refine Plan.move_slice rfl rfl <| Plan.assign_slice rfl rfl <| Plan.nil (k83 _ _ ?_); clear k83
   refine W.ret (finR_ret ?_)
   subst r
   refine RetOk.mk (.tmp_slice rfl .nil) ?_
   exact ⟨aout69, pout69, out69.length, cout69, Fout69, rfl, h82, hout69⟩
theorem wire_Same_ok {B : Nat} {w0 w : World} {L : List Rg} {a1 : List Byte} {aa1 : Option Addr} {na1 ca1 ia1 : Nat} (ha1 : Bx L ia1 aa1 na1 ca1 a1) {b2 : List Byte} {ab2 : Option Addr} {nb2 cb2 ib2 : Nat} (hb2 : Bx L ib2 ab2 nb2 cb2 b2) {r : Bool} (hR : wire_Same a1 b2 r) (HST : St B w0 (L) w) :
  Calls Tryd.prog 24 #[.slice aa1 na1 ca1, .slice ab2 nb2 cb2] w fun e w' => e = .returned (.bool r) ∧ St B w0 (L) w' := by
 refine W.enter 31 Tryd.func24 rfl rfl rfl ?_
 unfold wire_Same at hR
 have ea1 := ha1.hl; subst ea1
 have eb2 := hb2.hl; subst eb2
 refine W.seq_k fun _ k3 => W.regionT [(0, true)] (by kernel_rfl) ?_
 refine Plan.assign_bool rfl rfl <| Plan.nil (k3 _ _ ?_); clear k3
 refine W.seq_k fun _ k4 => W.seq_k fun _ k5 => ?_
 refine W.regionT [(0, true), (1, true), (2, true), (3, true), (4, true)] (by kernel_rfl) ?_
 refine Plan.move_slice rfl rfl <| Plan.len FWire.isl24 rfl rfl <| Plan.move_slice rfl rfl <| Plan.len FWire.isl24 rfl rfl <| Plan.cmpP (a := (((a1.length : Nat) : Int) : Int)) (b := (((b2.length : Nat) : Int) : Int)) (p := a1.length ≠ b2.length) rfl rfl rfl rfl icmp_neN <| Plan.nil (k5 _ _ ?_); clear k5
 by_cases hc6 : a1.length ≠ b2.length
 ·
  replace hR := ifT hR hc6
  refine W.condT (congrArg Value.bool (decide_eq_true hc6)) ?_
  refine W.seq_k fun _ k7 => W.regionT [(0, true)] (by kernel_rfl) ?_
  refine Plan.assign_bool rfl rfl <| Plan.nil (k7 _ _ ?_); clear k7
  refine W.ret (thenR_ret (finR_ret ?_))
  subst r
  refine RetOk.mk (.tmp_bool rfl .nil) ?_
  exact ⟨rfl, HST⟩
 ·
  replace hR := ifF hR hc6
  refine W.condF (congrArg Value.bool (decide_eq_false hc6)) ?_
  refine W.skip ?_
  refine k4 _ _ ?_; clear k4
  refine W.seq_k fun _ k8 => W.regionT [(0, true)] (by kernel_rfl) ?_
  refine Plan.assign_int rfl rfl <| Plan.nil (k8 _ _ ?_); clear k8
  refine W.seq_k fun _ k9 => W.seq_k fun _ k10 => ?_
  refine W.regionT [(0, true), (1, true), (2, true)] (by kernel_rfl) ?_
  refine Plan.move_slice rfl rfl <| Plan.len FWire.isl24 rfl rfl <| Plan.move_int rfl rfl <| Plan.nil (k10 _ _ ?_); clear k10
  obtain ⟨x_36, hI37, hR037⟩ := hR
  refine W.cutN (fun e w => ∃ y_x_36 : BitVec 8, x_36 = y_x_36 ∧ EnvHas e [(5, VU .u8 y_x_36)] ∧ St B w0 (L) w) ?_ ?_
  ·
   refine W.block ?_
   refine W.iter hI37 (fun (s37 : ((BitVec 8) × Nat)) e w => EnvHas e [(0, .slice aa1 a1.length ca1), (1, .slice ab2 b2.length cb2), (5, VU .u8 s37.1), (13, VN a1.length), (14, VN s37.2)] ∧ St B w0 (L) w) ⟨(zer (zer (zer (zer (zer zen))))), HST⟩ ?_
   rintro ⟨x_34, t35⟩ o37 hR hx37 ev38 wl38 ⟨he38, h38⟩
   obtain ⟨ev38, rfl⟩ := he38.open
   unfold wire_Same_l0 at hR
   refine W.seq_k fun _ k39 => W.regionT [(0, true)] (by kernel_rfl) ?_
   refine Plan.cmpP (a := (((t35 : Nat) : Int) : Int)) (b := (((a1.length : Nat) : Int) : Int)) (p := t35 < a1.length) rfl rfl rfl rfl icmp_ltN <| Plan.nil (k39 _ _ ?_); clear k39
   refine W.seq_k fun _ k40 => ?_
   by_cases hc41 : t35 < a1.length
   ·
    replace hR := ifT hR hc41
    refine W.condT (congrArg Value.bool (decide_eq_true hc41)) ?_
    refine W.skip ?_
    refine k40 _ _ ?_; clear k40
    refine W.seq_k fun _ k42 => ?_
    refine W.block ?_
    refine W.seq_k fun _ k43 => W.regionT [(0, true), (1, true)] (by kernel_rfl) ?_
    refine Plan.move_int rfl rfl <| Plan.assign_int rfl rfl <| Plan.nil (k43 _ _ ?_); clear k43
    refine W.regionD FWire.mixed [(0, true), (1, true), (2, true), (3, true), (4, true), (5, true), (6, true), (7, true), (8, true), (9, true), (10, true), (11, true)] (by kernel_rfl) ?_
    have h44 := h38.drew
    refine Plan.move_int rfl rfl <| Plan.move_slice rfl rfl <| Plan.move_int rfl rfl ?_
    obtain ⟨hc45, hR⟩ := hR
    refine Plan.idxVS (j := t35) h44 ha1 FWire.sl24 rfl rfl rfl hc45 ?_
    refine Plan.loadV (j := t35) h44 ha1 rfl rfl hc45 FWire.sc5 fun r46 hr46 => ?_
    refine Plan.move_slice rfl rfl <| Plan.move_int rfl rfl ?_
    obtain ⟨hc47, hR⟩ := hR
    refine Plan.idxVS (j := t35) h44 hb2 FWire.sl24 rfl rfl rfl hc47 ?_
    refine Plan.loadV (j := t35) h44 hb2 rfl rfl hc47 FWire.sc5 fun r48 hr48 => ?_
    refine Plan.xorU .u8 (X := (lit a1 t35)) (Y := (lit b2 t35)) rfl rfl rfl <| Plan.orU .u8 (X := x_34) (Y := ((lit a1 t35) ^^^ (lit b2 t35))) rfl rfl rfl <| Plan.assign_int rfl rfl <| Plan.nil ?_
    refine blockR_norm ?_
    refine k42 _ _ ?_; clear k42
    refine W.regionT [(0, true), (1, true)] (by kernel_rfl) ?_
    obtain ⟨hc49, hR⟩ := hR
    refine Plan.addN (a := t35) (b := 1) rfl rfl rfl (by omega) <| Plan.move_int rfl rfl <| Plan.nil ?_
    exact iterR_norm ⟨_, hR, (zer (zer (zer (zer (zer zen))))), h44⟩
   ·
    replace hR := ifF hR hc41
    refine W.condF (congrArg Value.bool (decide_eq_false hc41)) ?_
    refine W.exit (thenR_exit (iterR_exit (blockR_here ?_)))
    exact ⟨x_34, (hx37 _ hR).symm, (zer zen), h38⟩
  ·
   rintro ev50 wl50 ⟨y_x_36, hy50, he50, h50⟩
   obtain ⟨ev50, rfl⟩ := he50.open
   subst hy50
   replace hR := hR037
   refine k9 _ _ ?_; clear k9
   refine W.seq_k fun _ k51 => W.regionT [(0, true), (1, true), (2, true)] (by kernel_rfl) ?_
   refine Plan.move_int rfl rfl <| Plan.cmpP (a := (x_36.toNat : Int)) (b := ((0#8).toNat : Int)) (p := x_36 = 0#8) rfl rfl rfl rfl icmp_eqU <| Plan.assign_bool rfl rfl <| Plan.nil (k51 _ _ ?_); clear k51
   refine W.ret (finR_ret ?_)
   subst r
   refine RetOk.mk (.tmp_bool rfl .nil) ?_
   exact ⟨rfl, h50⟩
end Go.Proofs.YthjkmhdgenmnoaaDoor
