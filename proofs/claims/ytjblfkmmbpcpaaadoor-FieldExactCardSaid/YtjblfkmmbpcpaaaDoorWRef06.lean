/-
  WALKS of the package's functions, printed by this session's own program (auto.py).
-/
import Derived.Test.YtjblfkmmbpcpaaaDoorProg
import Derived.Test.YtjblfkmmbpcpaaaDoorEb
import Derived.Test.YtjblfkmmbpcpaaaDoorRRef06
import Derived.Test.YtjblfkmmbpcpaaaDoorEls
namespace Go.Proofs.YtjblfkmmbpcpaaaDoor
set_option linter.unusedSimpArgs false
set_option linter.unusedVariables false
set_option linter.unusedSectionVars false
open Go Go.LW
theorem FRef06.mixed : Tryd.prog.follows .mixedOrders = true := by kernel_rfl
theorem FRef06.sc5 : scalarT Tryd.prog 5 = true := by kernel_rfl
theorem FRef06.some5 : (Tryd.prog.underlying 5).isSome = true := by kernel_rfl
theorem FRef06.sz5 : szT Tryd.prog 5 1 = true := by kernel_rfl
theorem FRef06.u5 : Tryd.prog.underlying 5 = some (.int .u8) := by kernel_rfl
theorem FRef06.some24 : (Tryd.prog.underlying 24).isSome = true := by kernel_rfl
theorem FRef06.sc3 : scalarT Tryd.prog 3 = true := by kernel_rfl
theorem FRef06.z44 : zeroIs Tryd.prog 44 [(16, fun _ => .int .i64 0)] := zeroIs_agg (by kernel_rfl)
theorem FRef06.arr22 : arrB Tryd.prog 22 32 1 = true := by kernel_rfl
theorem FRef06.u3 : Tryd.prog.underlying 3 = some (.int .i64) := by kernel_rfl
theorem FRef06.zv3 : (Tryd.prog.info? 3).bind (·.zero) = some (.int .i64 0) := by kernel_rfl
theorem FRef06.slu103 : Tryd.prog.underlying 103 = some (.slice 3) := by kernel_rfl
theorem FRef06.sz3 : szT Tryd.prog 3 1 = true := by kernel_rfl
theorem FRef06.el103 : elD Tryd.prog 103 = some (1, 8, some (.int .i64 0)) := by kernel_rfl
theorem FRef06.sl103 : slB Tryd.prog 103 1 = true := by kernel_rfl
theorem FRef06.isl103 : ∃ el, Tryd.prog.underlying 103 = some (.slice el) := ⟨3, by kernel_rfl⟩
theorem FRef06.call75 : callB Tryd.prog 75 = true := by kernel_rfl
theorem FRef06.call76 : callB Tryd.prog 76 = true := by kernel_rfl
theorem FRef06.z103 : zeroIs Tryd.prog 103 [(1, fun _ => .slice none 0 0)] := zeroIs_one (by kernel_rfl) rfl
theorem FRef06.sz103 : szT Tryd.prog 103 1 = true := by kernel_rfl
theorem FRef06.sc103 : scalarT Tryd.prog 103 = true := by kernel_rfl
theorem FRef06.call81 : callB Tryd.prog 81 = true := by kernel_rfl
theorem FRef06.call77 : callB Tryd.prog 77 = true := by kernel_rfl
theorem FRef06.arr44 : arrB Tryd.prog 44 16 1 = true := by kernel_rfl
theorem FRef06.agg44 : aggT Tryd.prog 44 16 = true := by kernel_rfl
theorem FRef06.sz44 : szT Tryd.prog 44 16 = true := by kernel_rfl
theorem FRef06.call61 : callB Tryd.prog 61 = true := by kernel_rfl
theorem FRef06.call60 : callB Tryd.prog 60 = true := by kernel_rfl
theorem FRef06.call78 : callB Tryd.prog 78 = true := by kernel_rfl
theorem FRef06.call59 : callB Tryd.prog 59 = true := by kernel_rfl
theorem FRef06.call42 : callB Tryd.prog 42 = true := by kernel_rfl
theorem FRef06.call43 : callB Tryd.prog 43 = true := by kernel_rfl
theorem FRef06.call62 : callB Tryd.prog 62 = true := by kernel_rfl
theorem FRef06.call45 : callB Tryd.prog 45 = true := by kernel_rfl
theorem FRef06.call63 : callB Tryd.prog 63 = true := by kernel_rfl
theorem FRef06.z22 : zeroIs Tryd.prog 22 [(32, fun _ => VU .u8 0#8)] := zeroIs_agg (by kernel_rfl)
theorem FRef06.some3 : (Tryd.prog.underlying 3).isSome = true := by kernel_rfl
theorem FRef06.agg22 : aggT Tryd.prog 22 32 = true := by kernel_rfl
theorem FRef06.sz22 : szT Tryd.prog 22 32 = true := by kernel_rfl
theorem FRef06.call48 : callB Tryd.prog 48 = true := by kernel_rfl
theorem FRef06.call79 : callB Tryd.prog 79 = true := by kernel_rfl
theorem FRef06.arrI44 : arrIB Tryd.prog 44 16 .i64 = true := by kernel_rfl
theorem FRef06.row44 : rowB Tryd.prog 44 = true := by kernel_rfl

set_option maxRecDepth 8000 in
set_option maxHeartbeats 1000000 in
theorem letheref06_carries_ok {B : Nat} {w0 w : World} {L : List Rg} {d_1 : List Int} {ad_1 : Option Addr} {nd_1 cd_1 id_1 : Nat} (hd_1 : LV D3 L id_1 ad_1 nd_1 cd_1 d_1) {r : Bool} (hR : letheref06_carries d_1 r) (HST : St B w0 (L) w) :
    Calls Tryd.prog 75 #[.slice ad_1 nd_1 cd_1] w fun e w' => e = .returned (.bool r) ∧ St B w0 (L) w' := by
  refine W.enter 24 Tryd.func75 rfl rfl rfl ?_
  unfold letheref06_carries at hR
  have ed_1 := hd_1.hl; subst ed_1
  refine W.seq_k fun K2 hK2 => ?_
  refine W.regionT [(0, true)] (by kernel_rfl) ?_
  refine Plan.assign_bool rfl rfl ?_
  refine Plan.nil ?_
  refine hK2 _ _ ?_; clear hK2
  refine W.seq_k fun K3 hK3 => ?_
  refine W.seq_k fun K4 hK4 => ?_
  refine W.regionT [(0, true)] (by kernel_rfl) ?_
  refine Plan.assign_int rfl rfl ?_
  refine Plan.nil ?_
  refine hK4 _ _ ?_; clear hK4
  obtain ⟨x26, hI26, hR026⟩ := hR
  refine W.cutN (fun e w => x26 = some () ∧ EnvHas e [(0, .slice ad_1 d_1.length cd_1)] ∧ St B w0 (L) w) ?_ ?_
  ·
    refine W.block ?_
    refine W.iter hI26 (fun (s26 : Nat) e w => EnvHas e [(0, .slice ad_1 d_1.length cd_1), (3, VN s26)] ∧ St B w0 (L) w) ⟨(EnvHas.cons rfl (EnvHas.cons rfl EnvHas.nil)), HST⟩ ?_
    rintro i_25 o26 hR hx26 ev27 wl27 ⟨he27, h27⟩
    obtain ⟨ev27, rfl⟩ := he27.open
    unfold letheref06_carries_l0 at hR
    refine W.seq_k fun K28 hK28 => ?_
    refine W.seq_k fun K29 hK29 => ?_
    refine W.regionT [(0, true), (1, true), (2, true), (3, true)] (by kernel_rfl) ?_
    refine Plan.move_int rfl rfl ?_
    refine Plan.move_slice rfl rfl ?_
    refine Plan.len FRef06.isl103 rfl rfl ?_
    refine Plan.cmpP (a := (((i_25 : Nat) : Int) : Int)) (b := (((d_1.length : Nat) : Int) : Int)) (p := i_25 < d_1.length) rfl rfl rfl rfl icmp_ltN ?_
    refine Plan.nil ?_
    refine hK29 _ _ ?_; clear hK29
    by_cases hc30 : i_25 < d_1.length
    ·
      replace hR := ifT hR hc30
      refine W.condT (congrArg Value.bool (decide_eq_true hc30)) ?_
      refine W.skip ?_
      refine hK28 _ _ ?_; clear hK28
      refine W.seq_k fun K31 hK31 => ?_
      refine W.block ?_
      refine W.seq_k fun K32 hK32 => ?_
      refine W.regionT [(0, true), (1, true), (2, true), (3, true), (4, true)] (by kernel_rfl) ?_
      refine Plan.move_slice rfl rfl ?_
      refine Plan.move_int rfl rfl ?_
      obtain ⟨hc33, hR⟩ := hR
      refine Plan.idxLVS (D := D3) (j := i_25) h27 hd_1 FRef06.sl103 rfl rfl rfl hc33 ?_
      refine Plan.loadLV1 (D := D3) (X := d_1) (j := i_25) h27 (0 : Int) (fun _ x => .int .i64 x) hd_1 rfl rfl hc33 rfl (fun _ _ => rfl) FRef06.sc3 fun b34 r34 hs34 hr34 => ?_
      refine Plan.cmpP (a := ((d_1.getD i_25 (0 : Int)) : Int)) (b := (65536 : Int)) (p := 65536 ≤ (d_1.getD i_25 (0 : Int))) rfl rfl rfl rfl icmp_ge ?_
      refine Plan.nil ?_
      refine hK32 _ _ ?_; clear hK32
      by_cases hc35 : 65536 ≤ (d_1.getD i_25 (0 : Int))
      ·
        replace hR := ifT hR hc35
        refine W.condT (congrArg Value.bool (decide_eq_true hc35)) ?_
        refine W.seq_k fun K36 hK36 => ?_
        refine W.regionT [(0, true)] (by kernel_rfl) ?_
        refine Plan.assign_bool rfl rfl ?_
        refine Plan.nil ?_
        refine hK36 _ _ ?_; clear hK36
        refine W.ret (blockR_ret (thenR_ret (iterR_ret (blockR_ret (thenR_ret (thenR_ret (finR_ret ?_)))))))
        replace hR := hR.2
        subst r
        refine RetOk.mk (.tmp_bool rfl .nil) ?_
        exact ⟨rfl, h27⟩
      ·
        replace hR := ifF hR hc35
        refine W.condF (congrArg Value.bool (decide_eq_false hc35)) ?_
        refine W.skip ?_
        refine blockR_norm ?_
        refine hK31 _ _ ?_; clear hK31
        refine W.regionT [(0, true), (1, true), (2, true)] (by kernel_rfl) ?_
        refine Plan.move_int rfl rfl ?_
        obtain ⟨hc37, hR⟩ := hR
        refine Plan.addN (a := i_25) (b := 1) rfl rfl rfl (by omega) ?_
        refine Plan.assign_int rfl rfl ?_
        refine Plan.nil ?_
        exact iterR_norm ⟨_, hR, (EnvHas.cons rfl (EnvHas.cons rfl EnvHas.nil)), h27⟩
    ·
      replace hR := ifF hR hc30
      refine W.condF (congrArg Value.bool (decide_eq_false hc30)) ?_
      refine W.exit (thenR_exit (iterR_exit (blockR_here ?_)))
      exact ⟨(hx26 _ hR).symm, (EnvHas.cons rfl EnvHas.nil), h27⟩
  ·
    rintro ev38 wl38 ⟨hy38, he38, h38⟩
    obtain ⟨ev38, rfl⟩ := he38.open
    replace hR := hR026  hy38
    refine hK3 _ _ ?_; clear hK3
    refine W.seq_k fun K39 hK39 => ?_
    refine W.regionT [(0, true), (1, true), (2, true), (3, true), (4, true), (5, true), (6, true), (7, true), (8, true), (9, true)] (by kernel_rfl) ?_
    refine Plan.move_slice rfl rfl ?_
    refine Plan.len FRef06.isl103 rfl rfl ?_
    by_cases hc40 : d_1.length = 16
    ·
      replace hR := ifT hR hc40
      refine Plan.cmpV (a := (((d_1.length : Nat) : Int) : Int)) (b := (16 : Int)) (p := d_1.length = 16) (v := true) rfl rfl rfl rfl icmp_eqN (decide_eq_true hc40) ?_
      refine Plan.move_bool rfl rfl ?_
      refine Plan.move_slice rfl rfl ?_
      obtain ⟨hc41, hR⟩ := hR
      refine Plan.idxLVS (D := D3) (j := 15) h38 hd_1 FRef06.sl103 rfl rfl rfl hc41 ?_
      refine Plan.loadLV1 (D := D3) (X := d_1) (j := 15) h38 (0 : Int) (fun _ x => .int .i64 x) hd_1 rfl rfl hc41 rfl (fun _ _ => rfl) FRef06.sc3 fun b42 r42 hs42 hr42 => ?_
      refine Plan.cmpP (a := ((d_1.getD 15 (0 : Int)) : Int)) (b := (32768 : Int)) (p := 32768 ≤ (d_1.getD 15 (0 : Int))) rfl rfl rfl rfl icmp_ge ?_
      refine Plan.pickTb rfl rfl rfl ?_
      refine Plan.assign_bool rfl rfl ?_
      refine Plan.nil ?_
      refine hK39 _ _ ?_; clear hK39
      refine W.ret (finR_ret ?_)
      subst r
      refine RetOk.mk (.tmp_bool rfl .nil) ?_
      exact ⟨rfl, h38⟩
    ·
      replace hR := ifF hR hc40
      refine Plan.cmpV (a := (((d_1.length : Nat) : Int) : Int)) (b := (16 : Int)) (p := d_1.length = 16) (v := false) rfl rfl rfl rfl icmp_eqN (decide_eq_false hc40) ?_
      refine Plan.move_bool rfl rfl ?_
      refine Plan.passed rfl ?_
      refine Plan.passed rfl ?_
      refine Plan.passed rfl ?_
      refine Plan.passed rfl ?_
      refine Plan.pickFb rfl rfl rfl ?_
      refine Plan.assign_bool rfl rfl ?_
      refine Plan.nil ?_
      refine hK39 _ _ ?_; clear hK39
      refine W.ret (finR_ret ?_)
      subst r
      refine RetOk.mk (.tmp_bool rfl .nil) ?_
      exact ⟨rfl, h38⟩


set_option maxRecDepth 8000 in
set_option maxHeartbeats 1000000 in
theorem letheref06_carried_ok {B : Nat} {w0 w : World} {L : List Rg} {d_1 : List Int} {ad_1 : Option Addr} {nd_1 cd_1 id_1 : Nat} (hd_1 : LV D3 L id_1 ad_1 nd_1 cd_1 d_1) {r : (List Int)} (hR : letheref06_carried d_1 r) (HST : St B w0 (L) w) :
    Calls Tryd.prog 76 #[.slice ad_1 nd_1 cd_1] w fun e w' => ∃ ay0 : Option Addr, ∃ py0 : Option Nat, ∃ ny0 : Nat, ∃ cy0 : Nat, ∃ Fy0 : Nat → Value, e = .returned (.slice ay0 ny0 cy0) ∧ St B w0 (⟨py0, 0, cy0 * 1, Fy0, true⟩ :: L) w' ∧ LO D3 [] ay0 py0 ny0 cy0 Fy0 r := by
  refine W.enter 41 Tryd.func76 rfl rfl rfl ?_
  unfold letheref06_carried at hR
  have ed_1 := hd_1.hl; subst ed_1
  refine W.seq_k fun K2 hK2 => ?_
  refine W.regionT [(0, true)] (by kernel_rfl) ?_
  refine Plan.assign_slice rfl rfl ?_
  refine Plan.nil ?_
  refine hK2 _ _ ?_; clear hK2
  refine W.seq_k fun K3 hK3 => ?_
  refine W.regionT [(0, true)] (by kernel_rfl) ?_
  refine Plan.assign_slice rfl rfl ?_
  refine Plan.nil ?_
  refine hK3 _ _ ?_; clear hK3
  refine W.seq_k fun K4 hK4 => ?_
  refine W.regionT [(0, true)] (by kernel_rfl) ?_
  refine Plan.assign_int rfl rfl ?_
  refine Plan.nil ?_
  refine hK4 _ _ ?_; clear hK4
  refine W.seq_k fun K5 hK5 => ?_
  refine W.seq_k fun K6 hK6 => ?_
  refine W.regionT [(0, true)] (by kernel_rfl) ?_
  refine Plan.assign_int rfl rfl ?_
  refine Plan.nil ?_
  refine hK6 _ _ ?_; clear hK6
  have h87 : St B w0 (⟨none, 0, 0 * 1, fun _ => undef, true⟩ :: _) _ := HST.nilE (fun _ => undef)
  obtain ⟨out85, hI86, hR086⟩ := hR
  refine W.cutN (fun e w => ∃ y_out85 : List Int, out85 = y_out85 ∧ ∃ n_out85 : Nat, ∃ aout85 : Option Addr, ∃ pout85 : Option Nat, ∃ cout85 : Nat, ∃ Fout85 : Nat → Value, EnvHas e [(3, .slice aout85 n_out85 cout85)] ∧ St B w0 (⟨pout85, 0, cout85 * 1, Fout85, true⟩ :: L) w ∧ LO D3 [] aout85 pout85 n_out85 cout85 Fout85 y_out85) ?_ ?_
  ·
    refine W.block ?_
    refine W.iter hI86 (fun (s86 : ((List Int) × Int × Nat)) e w => ∃ n_out81 : Nat, ∃ aout81 : Option Addr, ∃ pout81 : Option Nat, ∃ cout81 : Nat, ∃ Fout81 : Nat → Value, EnvHas e [(0, .slice ad_1 d_1.length cd_1), (3, .slice aout81 n_out81 cout81), (4, .int .i64 s86.2.1), (5, VN s86.2.2)] ∧ St B w0 (⟨pout81, 0, cout81 * 1, Fout81, true⟩ :: L) w ∧ LO D3 [] aout81 pout81 n_out81 cout81 Fout81 s86.1) ⟨0, none, none, 0, (fun _ => undef), (EnvHas.cons rfl (EnvHas.cons rfl (EnvHas.cons rfl (EnvHas.cons rfl EnvHas.nil)))), h87, LO.nil⟩ ?_
    rintro ⟨out81, carry83, i_84⟩ o86 hR hx86 ev88 wl88 ⟨n_out81, aout81, pout81, cout81, Fout81, he88, h88, hout81⟩
    try dsimp only at he88 h88 hout81
    obtain rfl : List.length (α := Int) out81 = n_out81 := hout81.hl
    obtain ⟨ev88, rfl⟩ := he88.open
    unfold letheref06_carried_l0 at hR
    refine W.seq_k fun K89 hK89 => ?_
    obtain ⟨ok94, hX94, hR094⟩ := hR
    refine W.cutN (fun e w => (ok94 = true) ∧ EnvHas e [(0, .slice ad_1 d_1.length cd_1), (3, .slice aout81 out81.length cout81), (4, .int .i64 carry83), (5, VN i_84)] ∧ St B w0 (⟨pout81, 0, cout81 * 1, Fout81, true⟩ :: L) w) ?_ ?_
    ·
      replace hR := hX94
      refine W.seq_k fun K95 hK95 => ?_
      refine W.regionT [(0, true), (1, true), (2, true), (3, true), (4, true), (5, true), (6, true), (7, true), (8, true), (9, true), (10, true), (11, true), (12, true)] (by kernel_rfl) ?_
      refine Plan.move_int rfl rfl ?_
      refine Plan.move_slice rfl rfl ?_
      refine Plan.len FRef06.isl103 rfl rfl ?_
      by_cases hc96 : i_84 < d_1.length
      ·
        replace hR := ifT hR hc96
        refine Plan.cmpV (a := (((i_84 : Nat) : Int) : Int)) (b := (((d_1.length : Nat) : Int) : Int)) (p := i_84 < d_1.length) (v := true) rfl rfl rfl rfl icmp_ltN (decide_eq_true hc96) ?_
        refine Plan.move_bool rfl rfl ?_
        refine Plan.passed rfl ?_
        refine Plan.passed rfl ?_
        refine Plan.pickTb rfl rfl rfl ?_
        refine Plan.move_bool rfl rfl ?_
        refine Plan.passed rfl ?_
        refine Plan.passed rfl ?_
        refine Plan.passed rfl ?_
        refine Plan.pickTb rfl rfl rfl ?_
        refine Plan.nil ?_
        refine hK95 _ _ ?_; clear hK95
        refine W.condT rfl ?_
        refine W.skip ?_
        exact ⟨hR, (EnvHas.cons rfl (EnvHas.cons rfl (EnvHas.cons rfl (EnvHas.cons rfl EnvHas.nil)))), h88⟩
      ·
        replace hR := ifF hR hc96
        refine Plan.cmpV (a := (((i_84 : Nat) : Int) : Int)) (b := (((d_1.length : Nat) : Int) : Int)) (p := i_84 < d_1.length) (v := false) rfl rfl rfl rfl icmp_ltN (decide_eq_false hc96) ?_
        refine Plan.move_bool rfl rfl ?_
        refine Plan.move_int rfl rfl ?_
        by_cases hc97 : 0 < carry83
        ·
          replace hR := ifT hR hc97
          refine Plan.cmpV (a := (carry83 : Int)) (b := (0 : Int)) (p := 0 < carry83) (v := true) rfl rfl rfl rfl icmp_gt (decide_eq_true hc97) ?_
          refine Plan.pickFb rfl rfl rfl ?_
          refine Plan.move_bool rfl rfl ?_
          refine Plan.passed rfl ?_
          refine Plan.passed rfl ?_
          refine Plan.passed rfl ?_
          refine Plan.pickTb rfl rfl rfl ?_
          refine Plan.nil ?_
          refine hK95 _ _ ?_; clear hK95
          refine W.condT rfl ?_
          refine W.skip ?_
          exact ⟨hR, (EnvHas.cons rfl (EnvHas.cons rfl (EnvHas.cons rfl (EnvHas.cons rfl EnvHas.nil)))), h88⟩
        ·
          replace hR := ifF hR hc97
          refine Plan.cmpV (a := (carry83 : Int)) (b := (0 : Int)) (p := 0 < carry83) (v := false) rfl rfl rfl rfl icmp_gt (decide_eq_false hc97) ?_
          refine Plan.pickFb rfl rfl rfl ?_
          refine Plan.move_bool rfl rfl ?_
          refine Plan.move_slice rfl rfl ?_
          refine Plan.len FRef06.isl103 rfl rfl ?_
          refine Plan.cmpP (a := (((out81.length : Nat) : Int) : Int)) (b := (16 : Int)) (p := out81.length < 16) rfl rfl rfl rfl icmp_ltN ?_
          refine Plan.pickFb rfl rfl rfl ?_
          refine Plan.nil ?_
          refine hK95 _ _ ?_; clear hK95
          by_cases hc98 : out81.length < 16
          ·
            replace hR := ifT hR hc98
            refine W.condT (congrArg Value.bool (decide_eq_true hc98)) ?_
            refine W.skip ?_
            exact ⟨hR, (EnvHas.cons rfl (EnvHas.cons rfl (EnvHas.cons rfl (EnvHas.cons rfl EnvHas.nil)))), h88⟩
          ·
            replace hR := ifF hR hc98
            refine W.condF (congrArg Value.bool (decide_eq_false hc98)) ?_
            refine W.exit (thenR_exit (thenR_exit (iterR_exit (blockR_here ?_))))
            replace hR := hR.2
            exact ⟨out81, (hx86 _ hR).symm, out81.length, aout81, pout81, cout81, Fout81, (EnvHas.cons rfl EnvHas.nil), h88, hout81⟩
    ·
      rintro ev99 wl99 ⟨hy99_0, he99, h99⟩
      obtain ⟨ev99, rfl⟩ := he99.open
      replace hR := hR094 hy99_0
      refine hK89 _ _ ?_; clear hK89
      refine W.seq_k fun K100 hK100 => ?_
      refine W.block ?_
      refine W.seq_k fun K101 hK101 => ?_
      refine W.regionT [(0, true), (1, true)] (by kernel_rfl) ?_
      refine Plan.move_int rfl rfl ?_
      refine Plan.assign_int rfl rfl ?_
      refine Plan.nil ?_
      refine hK101 _ _ ?_; clear hK101
      refine W.seq_k fun K102 hK102 => ?_
      obtain ⟨v108, hX109, hR0109⟩ := hR
      refine W.cutN (fun e w => ∃ y_v108 : Int, (v108 = y_v108) ∧ EnvHas e [(0, .slice ad_1 d_1.length cd_1), (3, .slice aout81 out81.length cout81), (5, VN i_84), (6, .int .i64 y_v108)] ∧ St B w0 (⟨pout81, 0, cout81 * 1, Fout81, true⟩ :: L) w) ?_ ?_
      ·
        replace hR := hX109
        refine W.seq_k fun K110 hK110 => ?_
        refine W.regionT [(0, true), (1, true), (2, true), (3, true)] (by kernel_rfl) ?_
        refine Plan.move_int rfl rfl ?_
        refine Plan.move_slice rfl rfl ?_
        refine Plan.len FRef06.isl103 rfl rfl ?_
        refine Plan.cmpP (a := (((i_84 : Nat) : Int) : Int)) (b := (((d_1.length : Nat) : Int) : Int)) (p := i_84 < d_1.length) rfl rfl rfl rfl icmp_ltN ?_
        refine Plan.nil ?_
        refine hK110 _ _ ?_; clear hK110
        by_cases hc111 : i_84 < d_1.length
        ·
          replace hR := ifT hR hc111
          refine W.condT (congrArg Value.bool (decide_eq_true hc111)) ?_
          refine W.regionT [(0, true), (1, true), (2, true), (3, true), (4, true), (5, true), (6, true)] (by kernel_rfl) ?_
          refine Plan.move_int rfl rfl ?_
          refine Plan.move_slice rfl rfl ?_
          refine Plan.move_int rfl rfl ?_
          obtain ⟨hc112, hR⟩ := hR
          refine Plan.idxLVS (D := D3) (j := i_84) h99 (hd_1.app [_]) FRef06.sl103 rfl rfl rfl hc112 ?_
          refine Plan.loadLV1 (D := D3) (X := d_1) (j := i_84) h99 (0 : Int) (fun _ x => .int .i64 x) (hd_1.app [_]) rfl rfl hc112 rfl (fun _ _ => rfl) FRef06.sc3 fun b113 r113 hs113 hr113 => ?_
          obtain ⟨hc114, hR⟩ := hR
          refine Plan.addI (a := carry83) (b := (d_1.getD i_84 (0 : Int))) rfl rfl rfl (by omega) ?_
          refine Plan.assign_int rfl rfl ?_
          refine Plan.nil ?_
          exact ⟨(carry83 + (d_1.getD i_84 (0 : Int))), hR, (EnvHas.cons rfl (EnvHas.cons rfl (EnvHas.cons rfl (EnvHas.cons rfl EnvHas.nil)))), h99⟩
        ·
          replace hR := ifF hR hc111
          refine W.condF (congrArg Value.bool (decide_eq_false hc111)) ?_
          refine W.skip ?_
          exact ⟨carry83, hR, (EnvHas.cons rfl (EnvHas.cons rfl (EnvHas.cons rfl (EnvHas.cons rfl EnvHas.nil)))), h99⟩
      ·
        rintro ev115 wl115 ⟨y_v108, hy115_0, he115, h115⟩
        subst hy115_0
        obtain ⟨ev115, rfl⟩ := he115.open
        replace hR := hR0109
        refine hK102 _ _ ?_; clear hK102
        refine W.seq_k fun K116 hK116 => ?_
        refine W.regionT [(0, true), (1, true), (2, true), (3, false), (4, false), (5, true)] (by kernel_rfl) ?_
        refine Plan.move_slice rfl rfl ?_
        refine Plan.move_int rfl rfl ?_
        have hb117 := tmod_bd v108 (c := 65536) (by decide)
        refine Plan.remI (a := v108) (b := 65536) rfl rfl rfl (by omega) ?_
        refine Plan.buildLO (D := D3) (sz := 1) h115 [((), (v108.tmod 65536))] FRef06.slu103 FRef06.sz3 FRef06.zv3 (by decide) (by decide) rfl rfl rfl rfl (fun _ _ => trivial) (EffO.keep PIn.nil) fun b119 w119 F119 hb119 ho119 h119 => ?_
        replace ho119 : LO D3 [] (some ⟨b119, 0, none⟩) (some b119) ([(v108.tmod 65536)] : List Int).length 1 F119 ([(v108.tmod 65536)] : List Int) := ho119.re (fun _ _ h => h)
        obtain ⟨hc121, hR⟩ := hR
        refine Plan.appendLO (D := D3) (X := out81) (Y := ([(v108.tmod 65536)] : List Int)) (sz := 1) h119 () (0 : Int) 1 hout81 rfl FRef06.el103 rfl FRef06.slu103 rfl rfl rfl rfl (LO.lvf D3_flat ho119 0 rfl) (fun _ _ h => h) hc121.1 hc121.2 (fun _ => EffO.keep PIn.nil) fun a120 pb120 cap120 F120 w120 ho120 h120 => ?_
        simp only [List.cons_append, List.nil_append, List.set_cons_zero, List.set_cons_succ] at h120
        replace ho120 : LO D3 [] a120 pb120 (out81 ++ ([(v108.tmod 65536)] : List Int)).length cap120 F120 (out81 ++ ([(v108.tmod 65536)] : List Int)) := ho120.re (fun _ _ h => h)
        refine Plan.assign_slice rfl rfl ?_
        refine Plan.nil ?_
        refine hK116 _ _ ?_; clear hK116
        refine W.regionT [(0, true), (1, true), (2, true)] (by kernel_rfl) ?_
        refine Plan.move_int rfl rfl ?_
        obtain ⟨hc122, hR⟩ := hR
        refine Plan.quoIw (a := v108) (b := 65536) rfl rfl rfl (by omega) hc122 ?_
        refine Plan.assign_int rfl rfl ?_
        refine Plan.nil ?_
        refine blockR_norm ?_
        refine hK100 _ _ ?_; clear hK100
        refine W.regionT [(0, true), (1, true), (2, true)] (by kernel_rfl) ?_
        refine Plan.move_int rfl rfl ?_
        obtain ⟨hc123, hR⟩ := hR
        refine Plan.addN (a := i_84) (b := 1) rfl rfl rfl (by omega) ?_
        refine Plan.assign_int rfl rfl ?_
        refine Plan.nil ?_
        have h124 := St.pickT (C := [_, _]) h120 [1] (by decide)
        simp only [pick, List.filterMap_cons, List.filterMap_nil, List.getElem?_cons_zero, List.getElem?_cons_succ, List.cons_append, List.nil_append] at h124
        exact iterR_norm ⟨_, hR, (out81 ++ ([(v108.tmod 65536)] : List Int)).length, a120, pb120, cap120, F120, (EnvHas.cons rfl (EnvHas.cons rfl (EnvHas.cons rfl (EnvHas.cons rfl EnvHas.nil)))), h124, ho120⟩
  ·
    rintro ev125 wl125 ⟨y_out85, hy125, n_out85, aout85, pout85, cout85, Fout85, he125, h125, hout85⟩
    obtain ⟨ev125, rfl⟩ := he125.open
    subst hy125
    replace hR := hR086
    obtain rfl : List.length (α := Int) out85 = n_out85 := hout85.hl
    refine hK5 _ _ ?_; clear hK5
    refine W.seq_k fun K126 hK126 => ?_
    refine W.regionT [(0, true), (1, true)] (by kernel_rfl) ?_
    refine Plan.move_slice rfl rfl ?_
    refine Plan.assign_slice rfl rfl ?_
    refine Plan.nil ?_
    refine hK126 _ _ ?_; clear hK126
    refine W.ret (finR_ret ?_)
    subst r
    refine RetOk.mk (.tmp_slice rfl .nil) ?_
    exact ⟨aout85, pout85, out85.length, cout85, Fout85, rfl, h125, hout85⟩


set_option maxRecDepth 8000 in
set_option maxHeartbeats 1000000 in
theorem letheref06_folded_ok {B : Nat} {w0 w : World} {L : List Rg} {d_1 : List Int} {ad_1 : Option Addr} {nd_1 cd_1 id_1 : Nat} (hd_1 : LV D3 L id_1 ad_1 nd_1 cd_1 d_1) {r : (List Int)} (hR : letheref06_folded d_1 r) (HST : St B w0 (L) w) :
    Calls Tryd.prog 77 #[.slice ad_1 nd_1 cd_1] w fun e w' => ∃ ay0 : Option Addr, ∃ py0 : Option Nat, ∃ ny0 : Nat, ∃ cy0 : Nat, ∃ Fy0 : Nat → Value, e = .returned (.slice ay0 ny0 cy0) ∧ St B w0 (⟨py0, 0, cy0 * 1, Fy0, true⟩ :: L) w' ∧ LO D3 [] ay0 py0 ny0 cy0 Fy0 r := by
  refine W.enter 50 Tryd.func77 rfl rfl rfl ?_
  unfold letheref06_folded at hR
  have ed_1 := hd_1.hl; subst ed_1
  refine W.seq_k fun K2 hK2 => ?_
  refine W.regionT [(0, true)] (by kernel_rfl) ?_
  refine Plan.assign_slice rfl rfl ?_
  refine Plan.nil ?_
  refine hK2 _ _ ?_; clear hK2
  refine W.seq_k fun K3 hK3 => ?_
  refine W.regionT [(0, false), (1, false), (2, false)] (by kernel_rfl) ?_
  refine Plan.makeLO (D := D3) (len := 16) (c := 16) (sz := 1) HST () (0 : Int) FRef06.el103 rfl rfl trivial rfl rfl rfl (by omega) (by omega) (by omega) (fun _ => EffO.keep PIn.nil) fun b5 w5 F5 hb5 ho5 h5 => ?_
  replace ho5 : LO D3 [] (some ⟨b5, 0, none⟩) (some b5) (List.replicate 16 (0 : Int)).length 16 F5 (List.replicate 16 (0 : Int)) := ho5.re (fun _ _ h => h)
  refine Plan.alloc h5 rfl FRef06.z103 PIn.nil fun b6 w6 hb6 h6 => ?_
  simp only [rngs, Nat.zero_add, Nat.reduceAdd, List.cons_append, List.nil_append] at h6
  refine Plan.storeC h6 0 rfl rfl rfl rfl rfl FRef06.sz103 rfl fun w7 h7 => ?_
  simp only [List.cons_append, List.nil_append, List.set_cons_zero, List.set_cons_succ] at h7
  refine Plan.nil ?_
  refine hK3 _ _ ?_; clear hK3
  refine W.seq_k fun K8 hK8 => ?_
  refine W.seq_k fun K9 hK9 => ?_
  refine W.regionT [(0, true)] (by kernel_rfl) ?_
  refine Plan.assign_int rfl rfl ?_
  refine Plan.nil ?_
  refine hK9 _ _ ?_; clear hK9
  obtain ⟨m32, hI33, hR033⟩ := hR
  refine W.cutN (fun e w => ∃ y_m32 : List Int, m32 = y_m32 ∧ ∃ n_m32 : Nat, ∃ am32 : Option Addr, ∃ pm32 : Option Nat, ∃ cm32 : Nat, ∃ Fm32 : Nat → Value, EnvHas e [(0, .slice ad_1 d_1.length cd_1), (3, .pointer (some ⟨b6, 0, none⟩))] ∧ St B w0 (⟨pm32, 0, cm32 * 1, Fm32, true⟩ :: ⟨some b6, 0, 1, fun _ => .slice am32 n_m32 cm32, true⟩ :: L) w ∧ LO D3 [] am32 pm32 n_m32 cm32 Fm32 y_m32) ?_ ?_
  ·
    refine W.block ?_
    have h34 := St.pickT (C := [_, _]) h7 [1, 0] (by decide)
    simp only [pick, List.filterMap_cons, List.filterMap_nil, List.getElem?_cons_zero, List.getElem?_cons_succ, List.cons_append, List.nil_append] at h34
    refine W.iter hI33 (fun (s33 : (Nat × (List Int))) e w => ∃ n_m31 : Nat, ∃ am31 : Option Addr, ∃ pm31 : Option Nat, ∃ cm31 : Nat, ∃ Fm31 : Nat → Value, EnvHas e [(0, .slice ad_1 d_1.length cd_1), (3, .pointer (some ⟨b6, 0, none⟩)), (4, VN s33.1)] ∧ St B w0 (⟨pm31, 0, cm31 * 1, Fm31, true⟩ :: ⟨some b6, 0, 1, fun _ => .slice am31 n_m31 cm31, true⟩ :: L) w ∧ LO D3 [] am31 pm31 n_m31 cm31 Fm31 s33.2) ⟨(List.replicate 16 (0 : Int)).length, some ⟨b5, 0, none⟩, some b5, 16, F5, (EnvHas.cons rfl (EnvHas.cons rfl (EnvHas.cons rfl EnvHas.nil))), h34, ho5⟩ ?_
    rintro ⟨i_30, m31⟩ o33 hR hx33 ev35 wl35 ⟨n_m31, am31, pm31, cm31, Fm31, he35, h35, hm31⟩
    try dsimp only at he35 h35 hm31
    obtain rfl : List.length (α := Int) m31 = n_m31 := hm31.hl
    obtain ⟨ev35, rfl⟩ := he35.open
    unfold letheref06_folded_l0 at hR
    refine W.seq_k fun K36 hK36 => ?_
    refine W.seq_k fun K37 hK37 => ?_
    refine W.regionT [(0, true), (1, true)] (by kernel_rfl) ?_
    refine Plan.move_int rfl rfl ?_
    refine Plan.cmpP (a := (((i_30 : Nat) : Int) : Int)) (b := (16 : Int)) (p := i_30 < 16) rfl rfl rfl rfl icmp_ltN ?_
    refine Plan.nil ?_
    refine hK37 _ _ ?_; clear hK37
    by_cases hc38 : i_30 < 16
    ·
      replace hR := ifT hR hc38
      refine W.condT (congrArg Value.bool (decide_eq_true hc38)) ?_
      refine W.skip ?_
      refine hK36 _ _ ?_; clear hK36
      refine W.seq_k fun K39 hK39 => ?_
      refine W.block ?_
      refine W.regionD FRef06.mixed [(0, true), (1, true), (2, true), (3, true), (4, true), (5, true), (6, true), (7, false)] (by kernel_rfl) ?_
      have h40 := h35.drew
      refine Plan.load0 h40 1 rfl rfl rfl (by omega) FRef06.sc103 ?_
      refine Plan.move_int rfl rfl ?_
      refine Plan.move_slice rfl rfl ?_
      refine Plan.move_int rfl rfl ?_
      obtain ⟨hc41, hR⟩ := hR
      refine Plan.idxLVS (D := D3) (j := i_30) h40 (hd_1.app [_, _]) FRef06.sl103 rfl rfl rfl hc41 ?_
      refine Plan.loadLV1 (D := D3) (X := d_1) (j := i_30) h40 (0 : Int) (fun _ x => .int .i64 x) (hd_1.app [_, _]) rfl rfl hc41 rfl (fun _ _ => rfl) FRef06.sc3 fun b42 r42 hs42 hr42 => ?_
      obtain ⟨hc43, hR⟩ := hR
      refine Plan.idxLVS (D := D3) (j := i_30) h40 (LO.lvf D3_flat hm31 0 rfl) FRef06.sl103 rfl rfl rfl hc43 ?_
      refine Plan.storeLO1 (D := D3) (j := i_30) h40 () (d_1.getD i_30 (0 : Int)) (.int .i64 (d_1.getD i_30 (0 : Int))) 0 hm31 trivial rfl rfl rfl rfl rfl hc43 rfl FRef06.sz3 rfl fun w44 F44 ho44 h44 => ?_
      simp only [List.cons_append, List.nil_append, List.set_cons_zero, List.set_cons_succ] at h44
      have e44 : (m31.set i_30 (d_1.getD i_30 (0 : Int))).length = m31.length := List.length_set
      refine Plan.nil ?_
      refine blockR_norm ?_
      refine hK39 _ _ ?_; clear hK39
      refine W.regionT [(0, true), (1, true), (2, true)] (by kernel_rfl) ?_
      refine Plan.move_int rfl rfl ?_
      refine Plan.addN (a := i_30) (b := 1) rfl rfl rfl (by omega) ?_
      refine Plan.assign_int rfl rfl ?_
      refine Plan.nil ?_
      exact iterR_norm ⟨_, hR, m31.length, am31, pm31, cm31, F44, (EnvHas.cons rfl (EnvHas.cons rfl (EnvHas.cons rfl EnvHas.nil))), h44, (show LO D3 [] _ _ m31.length _ _ _ from ho44)⟩
    ·
      replace hR := ifF hR hc38
      refine W.condF (congrArg Value.bool (decide_eq_false hc38)) ?_
      refine W.exit (thenR_exit (iterR_exit (blockR_here ?_)))
      exact ⟨m31, (hx33 _ hR).symm, m31.length, am31, pm31, cm31, Fm31, (EnvHas.cons rfl (EnvHas.cons rfl EnvHas.nil)), h35, hm31⟩
  ·
    rintro ev45 wl45 ⟨y_m32, hy45, n_m32, am32, pm32, cm32, Fm32, he45, h45, hm32⟩
    obtain ⟨ev45, rfl⟩ := he45.open
    subst hy45
    replace hR := hR033
    obtain rfl : List.length (α := Int) m32 = n_m32 := hm32.hl
    refine hK8 _ _ ?_; clear hK8
    refine W.seq_k fun K46 hK46 => ?_
    refine W.regionD FRef06.mixed [(0, true), (1, true), (2, true), (3, true), (4, true), (5, true), (6, false)] (by kernel_rfl) ?_
    have h47 := h45.drew
    refine Plan.load0 h47 1 rfl rfl rfl (by omega) FRef06.sc103 ?_
    refine Plan.move_slice rfl rfl ?_
    obtain ⟨hc48, hR⟩ := hR
    refine Plan.idxLVS (D := D3) (j := 15) h47 (hd_1.app [_, _]) FRef06.sl103 rfl rfl rfl hc48 ?_
    refine Plan.loadLV1 (D := D3) (X := d_1) (j := 15) h47 (0 : Int) (fun _ x => .int .i64 x) (hd_1.app [_, _]) rfl rfl hc48 rfl (fun _ _ => rfl) FRef06.sc3 fun b49 r49 hs49 hr49 => ?_
    have hb50 := tmod_bd (d_1.getD 15 (0 : Int)) (c := 32768) (by decide)
    refine Plan.remI (a := (d_1.getD 15 (0 : Int))) (b := 32768) rfl rfl rfl (by omega) ?_
    obtain ⟨hc51, hR⟩ := hR
    refine Plan.idxLVS (D := D3) (j := 15) h47 (LO.lvf D3_flat hm32 0 rfl) FRef06.sl103 rfl rfl rfl hc51 ?_
    refine Plan.storeLO1 (D := D3) (j := 15) h47 () ((d_1.getD 15 (0 : Int)).tmod 32768) (.int .i64 ((d_1.getD 15 (0 : Int)).tmod 32768)) 0 hm32 trivial rfl rfl rfl rfl rfl hc51 rfl FRef06.sz3 rfl fun w52 F52 ho52 h52 => ?_
    simp only [List.cons_append, List.nil_append, List.set_cons_zero, List.set_cons_succ] at h52
    have e52 : (m32.set 15 ((d_1.getD 15 (0 : Int)).tmod 32768)).length = m32.length := List.length_set
    refine Plan.nil ?_
    refine hK46 _ _ ?_; clear hK46
    refine W.seq_k fun K53 hK53 => ?_
    refine W.seq_k fun K54 hK54 => ?_
    refine W.regionT [(0, true)] (by kernel_rfl) ?_
    refine Plan.assign_int rfl rfl ?_
    refine Plan.nil ?_
    refine hK54 _ _ ?_; clear hK54
    obtain ⟨m411, hI412, hR0412⟩ := hR
    refine W.cutN (fun e w => ∃ y_m411 : List Int, m411 = y_m411 ∧ ∃ n_m411 : Nat, ∃ am411 : Option Addr, ∃ pm411 : Option Nat, ∃ cm411 : Nat, ∃ Fm411 : Nat → Value, EnvHas e [(3, .pointer (some ⟨b6, 0, none⟩))] ∧ St B w0 (⟨pm411, 0, cm411 * 1, Fm411, true⟩ :: ⟨some b6, 0, 1, fun _ => .slice am411 n_m411 cm411, true⟩ :: L) w ∧ LO D3 [] am411 pm411 n_m411 cm411 Fm411 y_m411) ?_ ?_
    ·
      refine W.block ?_
      refine W.iter hI412 (fun (s412 : (Nat × (List Int))) e w => ∃ n_m410 : Nat, ∃ am410 : Option Addr, ∃ pm410 : Option Nat, ∃ cm410 : Nat, ∃ Fm410 : Nat → Value, EnvHas e [(0, .slice ad_1 d_1.length cd_1), (3, .pointer (some ⟨b6, 0, none⟩)), (5, VN s412.1)] ∧ St B w0 (⟨pm410, 0, cm410 * 1, Fm410, true⟩ :: ⟨some b6, 0, 1, fun _ => .slice am410 n_m410 cm410, true⟩ :: L) w ∧ LO D3 [] am410 pm410 n_m410 cm410 Fm410 s412.2) ⟨m32.length, am32, pm32, cm32, F52, (EnvHas.cons rfl (EnvHas.cons rfl (EnvHas.cons rfl EnvHas.nil))), h52, (show LO D3 [] _ _ m32.length _ _ _ from ho52)⟩ ?_
      rintro ⟨i_409, m410⟩ o412 hR hx412 ev413 wl413 ⟨n_m410, am410, pm410, cm410, Fm410, he413, h413, hm410⟩
      try dsimp only at he413 h413 hm410
      obtain rfl : List.length (α := Int) m410 = n_m410 := hm410.hl
      obtain ⟨ev413, rfl⟩ := he413.open
      unfold letheref06_folded_l1 at hR
      refine W.seq_k fun K414 hK414 => ?_
      refine W.seq_k fun K415 hK415 => ?_
      refine W.regionT [(0, true), (1, true), (2, true), (3, true)] (by kernel_rfl) ?_
      refine Plan.move_int rfl rfl ?_
      refine Plan.move_slice rfl rfl ?_
      refine Plan.len FRef06.isl103 rfl rfl ?_
      refine Plan.cmpP (a := (((i_409 : Nat) : Int) : Int)) (b := (((d_1.length : Nat) : Int) : Int)) (p := i_409 < d_1.length) rfl rfl rfl rfl icmp_ltN ?_
      refine Plan.nil ?_
      refine hK415 _ _ ?_; clear hK415
      by_cases hc416 : i_409 < d_1.length
      ·
        replace hR := ifT hR hc416
        refine W.condT (congrArg Value.bool (decide_eq_true hc416)) ?_
        refine W.skip ?_
        refine hK414 _ _ ?_; clear hK414
        refine W.seq_k fun K417 hK417 => ?_
        refine W.block ?_
        refine W.seq_k fun K418 hK418 => ?_
        refine W.regionT [(0, true), (1, true), (2, true), (3, true), (4, true)] (by kernel_rfl) ?_
        refine Plan.move_slice rfl rfl ?_
        refine Plan.move_int rfl rfl ?_
        obtain ⟨hc419, hR⟩ := hR
        refine Plan.idxLVS (D := D3) (j := i_409) h413 (hd_1.app [_, _]) FRef06.sl103 rfl rfl rfl hc419 ?_
        refine Plan.loadLV1 (D := D3) (X := d_1) (j := i_409) h413 (0 : Int) (fun _ x => .int .i64 x) (hd_1.app [_, _]) rfl rfl hc419 rfl (fun _ _ => rfl) FRef06.sc3 fun b420 r420 hs420 hr420 => ?_
        refine Plan.assign_int rfl rfl ?_
        refine Plan.nil ?_
        refine hK418 _ _ ?_; clear hK418
        refine W.seq_k fun K421 hK421 => ?_
        refine W.seq_k fun K422 hK422 => ?_
        refine W.regionT [(0, true), (1, true)] (by kernel_rfl) ?_
        refine Plan.move_int rfl rfl ?_
        refine Plan.cmpP (a := (((i_409 : Nat) : Int) : Int)) (b := (15 : Int)) (p := i_409 = 15) rfl rfl rfl rfl icmp_eqN ?_
        refine Plan.nil ?_
        refine hK422 _ _ ?_; clear hK422
        by_cases hc423 : i_409 = 15
        ·
          replace hR := ifT hR hc423
          refine W.condT (congrArg Value.bool (decide_eq_true hc423)) ?_
          refine W.seq_k fun K424 hK424 => ?_
          refine W.regionT [(0, true), (1, true), (2, true), (3, true), (4, true)] (by kernel_rfl) ?_
          refine Plan.move_slice rfl rfl ?_
          obtain ⟨hc425, hR⟩ := hR
          refine Plan.idxLVS (D := D3) (j := 15) h413 (hd_1.app [_, _]) FRef06.sl103 rfl rfl rfl hc425 ?_
          refine Plan.loadLV1 (D := D3) (X := d_1) (j := 15) h413 (0 : Int) (fun _ x => .int .i64 x) (hd_1.app [_, _]) rfl rfl hc425 rfl (fun _ _ => rfl) FRef06.sc3 fun b426 r426 hs426 hr426 => ?_
          obtain ⟨hc427, hR⟩ := hR
          refine Plan.quoIw (a := (d_1.getD 15 (0 : Int))) (b := 32768) rfl rfl rfl (by omega) hc427 ?_
          refine Plan.assign_int rfl rfl ?_
          refine Plan.nil ?_
          refine hK424 _ _ ?_; clear hK424
          refine W.seq_k fun K428 hK428 => ?_
          refine W.regionT [(0, true), (1, true), (2, false)] (by kernel_rfl) ?_
          refine Plan.move_int rfl rfl ?_
          obtain ⟨hc429, hR⟩ := hR
          refine Plan.mulI (a := 19) (b := ((d_1.getD 15 (0 : Int)).tdiv 32768)) rfl rfl rfl (by omega) ?_
          obtain ⟨m468, hX469, hR0469⟩ := hR
          refine Plan.call (vs := [.pointer (some ⟨b6, 0, none⟩), VN 0, .int .i64 (19 * ((d_1.getD 15 (0 : Int)).tdiv 32768))]) (R := fun e w => ∃ y_m468 : List Int, (m468 = y_m468) ∧ ∃ n_m468 : Nat, ∃ am468 : Option Addr, ∃ pm468 : Option Nat, ∃ cm468 : Nat, ∃ Fm468 : Nat → Value, e = .returned (.tuple #[]) ∧ St B w0 (⟨pm468, 0, cm468 * 1, Fm468, true⟩ :: ⟨some b6, 0, 1, fun _ => .slice am468 n_m468 cm468, true⟩ :: L) w ∧ LO D3 [] am468 pm468 n_m468 cm468 Fm468 y_m468) rfl FRef06.call81 rfl ?_ ?_
          ·
            replace hR := hX469
            refine W.enter 32 Tryd.func81 rfl rfl rfl ?_
            refine W.seq_k fun K470 hK470 => ?_
            obtain ⟨m489, hI490, hR0490⟩ := hR
            refine W.cutN (fun e w => ∃ y_m489 : List Int, m489 = y_m489 ∧ ∃ n_m489 : Nat, ∃ am489 : Option Addr, ∃ pm489 : Option Nat, ∃ cm489 : Nat, ∃ Fm489 : Nat → Value, EnvHas e [(0, .pointer (some ⟨b6, 0, none⟩)), (1, VN 0), (2, .int .i64 (19 * ((d_1.getD 15 (0 : Int)).tdiv 32768)))] ∧ St B w0 (⟨pm489, 0, cm489 * 1, Fm489, true⟩ :: ⟨some b6, 0, 1, fun _ => .slice am489 n_m489 cm489, true⟩ :: L) w ∧ LO D3 [] am489 pm489 n_m489 cm489 Fm489 y_m489) ?_ ?_
            ·
              refine W.block ?_
              refine W.iter hI490 (fun (s490 : (List Int)) e w => ∃ n_m488 : Nat, ∃ am488 : Option Addr, ∃ pm488 : Option Nat, ∃ cm488 : Nat, ∃ Fm488 : Nat → Value, EnvHas e [(0, .pointer (some ⟨b6, 0, none⟩)), (1, VN 0), (2, .int .i64 (19 * ((d_1.getD 15 (0 : Int)).tdiv 32768)))] ∧ St B w0 (⟨pm488, 0, cm488 * 1, Fm488, true⟩ :: ⟨some b6, 0, 1, fun _ => .slice am488 n_m488 cm488, true⟩ :: L) w ∧ LO D3 [] am488 pm488 n_m488 cm488 Fm488 s490) ⟨m410.length, am410, pm410, cm410, Fm410, (EnvHas.cons rfl (EnvHas.cons rfl (EnvHas.cons rfl EnvHas.nil))), h413, hm410⟩ ?_
              rintro m488 o490 hR hx490 ev491 wl491 ⟨n_m488, am488, pm488, cm488, Fm488, he491, h491, hm488⟩
              obtain rfl : List.length (α := Int) m488 = n_m488 := hm488.hl
              obtain ⟨ev491, rfl⟩ := he491.open
              unfold letheref06_folded_l2 at hR
              refine W.seq_k fun K492 hK492 => ?_
              refine W.seq_k fun K493 hK493 => ?_
              refine W.regionT [(0, true), (1, true), (2, true), (3, true), (4, true), (5, true)] (by kernel_rfl) ?_
              refine Plan.move_ptr rfl rfl ?_
              refine Plan.nilCheck rfl rfl ?_
              refine Plan.load0 h491 1 rfl rfl rfl (by omega) FRef06.sc103 ?_
              refine Plan.len FRef06.isl103 rfl rfl ?_
              refine Plan.move_int rfl rfl ?_
              refine Plan.cmpP (a := (((m488.length : Nat) : Int) : Int)) (b := (0 : Int)) (p := m488.length ≤ 0) rfl rfl rfl rfl icmp_leN ?_
              refine Plan.nil ?_
              refine hK493 _ _ ?_; clear hK493
              by_cases hc494 : m488.length ≤ 0
              ·
                replace hR := ifT hR hc494
                refine W.condT (congrArg Value.bool (decide_eq_true hc494)) ?_
                refine W.skip ?_
                refine hK492 _ _ ?_; clear hK492
                refine W.block ?_
                refine W.regionT [(0, true), (1, true), (2, true), (3, true), (4, false), (5, false), (6, true), (7, false)] (by kernel_rfl) ?_
                refine Plan.move_ptr rfl rfl ?_
                refine Plan.move_ptr rfl rfl ?_
                refine Plan.nilCheck rfl rfl ?_
                refine Plan.load0 h491 1 rfl rfl rfl (by omega) FRef06.sc103 ?_
                refine Plan.buildLO (D := D3) (sz := 1) h491 [((), (0 : Int))] FRef06.slu103 FRef06.sz3 FRef06.zv3 (by decide) (by decide) rfl rfl rfl rfl (fun _ _ => trivial) (EffO.keep (PIn.cons 1 rfl PIn.nil)) fun b496 w496 F496 hb496 ho496 h496 => ?_
                replace ho496 : LO D3 [] (some ⟨b496, 0, none⟩) (some b496) ([0] : List Int).length 1 F496 ([0] : List Int) := ho496.re (fun _ _ h => h)
                obtain ⟨hc498, hR⟩ := hR
                refine Plan.appendLO (D := D3) (X := m488) (Y := ([0] : List Int)) (sz := 1) h496 () (0 : Int) 1 hm488 rfl FRef06.el103 rfl FRef06.slu103 rfl rfl rfl rfl (LO.lvf D3_flat ho496 0 rfl) (fun _ _ h => h) hc498.1 hc498.2 (fun _ => EffO.wait rfl) fun a497 pb497 cap497 F497 w497 ho497 h497 => ?_
                simp only [List.cons_append, List.nil_append, List.set_cons_zero, List.set_cons_succ] at h497
                replace ho497 : LO D3 [] a497 pb497 (m488 ++ ([0] : List Int)).length cap497 F497 (m488 ++ ([0] : List Int)) := ho497.re (fun _ _ h => h)
                refine Plan.nilCheck rfl rfl ?_
                refine Plan.storeC h497 2 rfl rfl rfl rfl rfl FRef06.sz103 rfl fun w499 h499 => ?_
                simp only [List.cons_append, List.nil_append, List.set_cons_zero, List.set_cons_succ] at h499
                refine Plan.nil ?_
                refine blockR_norm ?_
                have h500 := St.pickT (C := [_, _, _]) h499 [1, 2] (by decide)
                simp only [pick, List.filterMap_cons, List.filterMap_nil, List.getElem?_cons_zero, List.getElem?_cons_succ, List.cons_append, List.nil_append] at h500
                exact iterR_norm ⟨_, hR, (m488 ++ ([0] : List Int)).length, a497, pb497, cap497, F497, (EnvHas.cons rfl (EnvHas.cons rfl (EnvHas.cons rfl EnvHas.nil))), h500, ho497⟩
              ·
                replace hR := ifF hR hc494
                refine W.condF (congrArg Value.bool (decide_eq_false hc494)) ?_
                refine W.exit (thenR_exit (iterR_exit (blockR_here ?_)))
                exact ⟨m488, (hx490 _ hR).symm, m488.length, am488, pm488, cm488, Fm488, (EnvHas.cons rfl (EnvHas.cons rfl (EnvHas.cons rfl EnvHas.nil))), h491, hm488⟩
            ·
              rintro ev501 wl501 ⟨y_m489, hy501, n_m489, am489, pm489, cm489, Fm489, he501, h501, hm489⟩
              obtain ⟨ev501, rfl⟩ := he501.open
              subst hy501
              replace hR := hR0490
              obtain rfl : List.length (α := Int) m489 = n_m489 := hm489.hl
              refine hK470 _ _ ?_; clear hK470
              refine W.regionD FRef06.mixed [(0, true), (1, true), (2, true), (3, true), (4, true), (5, true), (6, true), (7, true), (8, true), (9, true), (10, true), (11, true), (12, true), (13, false)] (by kernel_rfl) ?_
              have h502 := h501.drew
              refine Plan.move_ptr rfl rfl ?_
              refine Plan.nilCheck rfl rfl ?_
              refine Plan.load0 h502 1 rfl rfl rfl (by omega) FRef06.sc103 ?_
              refine Plan.move_int rfl rfl ?_
              refine Plan.move_ptr rfl rfl ?_
              refine Plan.nilCheck rfl rfl ?_
              refine Plan.load0 h502 1 rfl rfl rfl (by omega) FRef06.sc103 ?_
              refine Plan.move_int rfl rfl ?_
              obtain ⟨hc503, hR⟩ := hR
              refine Plan.idxLVS (D := D3) (j := 0) h502 (LO.lvf D3_flat hm489 0 rfl) FRef06.sl103 rfl rfl rfl hc503 ?_
              refine Plan.loadLV1 (D := D3) (X := m489) (j := 0) h502 (0 : Int) (fun _ x => .int .i64 x) (LO.lvf D3_flat hm489 0 rfl) rfl rfl hc503 rfl (fun _ _ => rfl) FRef06.sc3 fun b504 r504 hs504 hr504 => ?_
              refine Plan.move_int rfl rfl ?_
              obtain ⟨hc505, hR⟩ := hR
              refine Plan.addI (a := (m489.getD 0 (0 : Int))) (b := (19 * ((d_1.getD 15 (0 : Int)).tdiv 32768))) rfl rfl rfl (by omega) ?_
              obtain ⟨hc506, hR⟩ := hR
              refine Plan.idxLVS (D := D3) (j := 0) h502 (LO.lvf D3_flat hm489 0 rfl) FRef06.sl103 rfl rfl rfl hc506 ?_
              refine Plan.storeLO1 (D := D3) (j := 0) h502 () ((m489.getD 0 (0 : Int)) + (19 * ((d_1.getD 15 (0 : Int)).tdiv 32768))) (.int .i64 ((m489.getD 0 (0 : Int)) + (19 * ((d_1.getD 15 (0 : Int)).tdiv 32768)))) 0 hm489 trivial rfl rfl rfl rfl rfl hc506 rfl FRef06.sz3 rfl fun w507 F507 ho507 h507 => ?_
              simp only [List.cons_append, List.nil_append, List.set_cons_zero, List.set_cons_succ] at h507
              have e507 : (m489.set 0 ((m489.getD 0 (0 : Int)) + (19 * ((d_1.getD 15 (0 : Int)).tdiv 32768)))).length = m489.length := List.length_set
              refine Plan.nil ?_
              refine finR_norm ?_
              refine RetOk.mk .nil ?_
              exact ⟨(m489.set 0 ((m489.getD 0 (0 : Int)) + (19 * ((d_1.getD 15 (0 : Int)).tdiv 32768)))), hR, m489.length, am489, pm489, cm489, F507, rfl, h507, (show LO D3 [] _ _ m489.length _ _ _ from ho507)⟩
          ·
            rintro _ w508 ⟨y_m468, hy508_0, n_m468, am468, pm468, cm468, Fm468, rfl, h508, hm468⟩
            subst hy508_0
            obtain rfl : List.length (α := Int) m468 = n_m468 := hm468.hl
            replace hR := hR0469
            refine ⟨_, rfl, .inl ⟨PIn.keep PIn.nil h508, ?_⟩⟩
            refine Plan.nil ?_
            refine hK428 _ _ ?_; clear hK428
            refine W.exit (thenR_exit (blockR_here ?_))
            refine hK417 _ _ ?_; clear hK417
            refine W.regionT [(0, true), (1, true), (2, true)] (by kernel_rfl) ?_
            refine Plan.move_int rfl rfl ?_
            refine Plan.addN (a := i_409) (b := 1) rfl rfl rfl (by omega) ?_
            refine Plan.assign_int rfl rfl ?_
            refine Plan.nil ?_
            exact iterR_norm ⟨_, hR, m468.length, am468, pm468, cm468, Fm468, (EnvHas.cons rfl (EnvHas.cons rfl (EnvHas.cons rfl EnvHas.nil))), h508, hm468⟩
        ·
          replace hR := ifF hR hc423
          refine W.condF (congrArg Value.bool (decide_eq_false hc423)) ?_
          refine W.skip ?_
          refine hK421 _ _ ?_; clear hK421
          refine W.regionT [(0, true), (1, true), (2, true), (3, true), (4, false)] (by kernel_rfl) ?_
          refine Plan.move_int rfl rfl ?_
          obtain ⟨hc509, hR⟩ := hR
          refine Plan.subI (a := ((i_409 : Nat) : Int)) (b := 16) rfl rfl rfl (by omega) ?_
          refine Plan.move_int rfl rfl ?_
          obtain ⟨hc510, hR⟩ := hR
          refine Plan.mulI (a := 38) (b := (d_1.getD i_409 (0 : Int))) rfl rfl rfl (by omega) ?_
          obtain ⟨m549, hX550, hR0550⟩ := hR
          refine Plan.call (vs := [.pointer (some ⟨b6, 0, none⟩), .int .i64 (((i_409 : Nat) : Int) - 16), .int .i64 (38 * (d_1.getD i_409 (0 : Int)))]) (R := fun e w => ∃ y_m549 : List Int, (m549 = y_m549) ∧ ∃ n_m549 : Nat, ∃ am549 : Option Addr, ∃ pm549 : Option Nat, ∃ cm549 : Nat, ∃ Fm549 : Nat → Value, e = .returned (.tuple #[]) ∧ St B w0 (⟨pm549, 0, cm549 * 1, Fm549, true⟩ :: ⟨some b6, 0, 1, fun _ => .slice am549 n_m549 cm549, true⟩ :: L) w ∧ LO D3 [] am549 pm549 n_m549 cm549 Fm549 y_m549) rfl FRef06.call81 rfl ?_ ?_
          ·
            replace hR := hX550
            refine W.enter 32 Tryd.func81 rfl rfl rfl ?_
            refine W.seq_k fun K551 hK551 => ?_
            obtain ⟨m570, hI571, hR0571⟩ := hR
            refine W.cutN (fun e w => ∃ y_m570 : List Int, m570 = y_m570 ∧ ∃ n_m570 : Nat, ∃ am570 : Option Addr, ∃ pm570 : Option Nat, ∃ cm570 : Nat, ∃ Fm570 : Nat → Value, EnvHas e [(0, .pointer (some ⟨b6, 0, none⟩)), (1, .int .i64 (((i_409 : Nat) : Int) - 16)), (2, .int .i64 (38 * (d_1.getD i_409 (0 : Int))))] ∧ St B w0 (⟨pm570, 0, cm570 * 1, Fm570, true⟩ :: ⟨some b6, 0, 1, fun _ => .slice am570 n_m570 cm570, true⟩ :: L) w ∧ LO D3 [] am570 pm570 n_m570 cm570 Fm570 y_m570) ?_ ?_
            ·
              refine W.block ?_
              refine W.iter hI571 (fun (s571 : (List Int)) e w => ∃ n_m569 : Nat, ∃ am569 : Option Addr, ∃ pm569 : Option Nat, ∃ cm569 : Nat, ∃ Fm569 : Nat → Value, EnvHas e [(0, .pointer (some ⟨b6, 0, none⟩)), (1, .int .i64 (((i_409 : Nat) : Int) - 16)), (2, .int .i64 (38 * (d_1.getD i_409 (0 : Int))))] ∧ St B w0 (⟨pm569, 0, cm569 * 1, Fm569, true⟩ :: ⟨some b6, 0, 1, fun _ => .slice am569 n_m569 cm569, true⟩ :: L) w ∧ LO D3 [] am569 pm569 n_m569 cm569 Fm569 s571) ⟨m410.length, am410, pm410, cm410, Fm410, (EnvHas.cons rfl (EnvHas.cons rfl (EnvHas.cons rfl EnvHas.nil))), h413, hm410⟩ ?_
              rintro m569 o571 hR hx571 ev572 wl572 ⟨n_m569, am569, pm569, cm569, Fm569, he572, h572, hm569⟩
              obtain rfl : List.length (α := Int) m569 = n_m569 := hm569.hl
              obtain ⟨ev572, rfl⟩ := he572.open
              unfold letheref06_folded_l3 at hR
              refine W.seq_k fun K573 hK573 => ?_
              refine W.seq_k fun K574 hK574 => ?_
              refine W.regionT [(0, true), (1, true), (2, true), (3, true), (4, true), (5, true)] (by kernel_rfl) ?_
              refine Plan.move_ptr rfl rfl ?_
              refine Plan.nilCheck rfl rfl ?_
              refine Plan.load0 h572 1 rfl rfl rfl (by omega) FRef06.sc103 ?_
              refine Plan.len FRef06.isl103 rfl rfl ?_
              refine Plan.move_int rfl rfl ?_
              refine Plan.cmpP (a := (((m569.length : Nat) : Int) : Int)) (b := ((((i_409 : Nat) : Int) - 16) : Int)) (p := ((m569.length : Nat) : Int) ≤ (((i_409 : Nat) : Int) - 16)) rfl rfl rfl rfl icmp_le ?_
              refine Plan.nil ?_
              refine hK574 _ _ ?_; clear hK574
              by_cases hc575 : ((m569.length : Nat) : Int) ≤ (((i_409 : Nat) : Int) - 16)
              ·
                replace hR := ifT hR hc575
                refine W.condT (congrArg Value.bool (decide_eq_true hc575)) ?_
                refine W.skip ?_
                refine hK573 _ _ ?_; clear hK573
                refine W.block ?_
                refine W.regionT [(0, true), (1, true), (2, true), (3, true), (4, false), (5, false), (6, true), (7, false)] (by kernel_rfl) ?_
                refine Plan.move_ptr rfl rfl ?_
                refine Plan.move_ptr rfl rfl ?_
                refine Plan.nilCheck rfl rfl ?_
                refine Plan.load0 h572 1 rfl rfl rfl (by omega) FRef06.sc103 ?_
                refine Plan.buildLO (D := D3) (sz := 1) h572 [((), (0 : Int))] FRef06.slu103 FRef06.sz3 FRef06.zv3 (by decide) (by decide) rfl rfl rfl rfl (fun _ _ => trivial) (EffO.keep (PIn.cons 1 rfl PIn.nil)) fun b577 w577 F577 hb577 ho577 h577 => ?_
                replace ho577 : LO D3 [] (some ⟨b577, 0, none⟩) (some b577) ([0] : List Int).length 1 F577 ([0] : List Int) := ho577.re (fun _ _ h => h)
                obtain ⟨hc579, hR⟩ := hR
                refine Plan.appendLO (D := D3) (X := m569) (Y := ([0] : List Int)) (sz := 1) h577 () (0 : Int) 1 hm569 rfl FRef06.el103 rfl FRef06.slu103 rfl rfl rfl rfl (LO.lvf D3_flat ho577 0 rfl) (fun _ _ h => h) hc579.1 hc579.2 (fun _ => EffO.wait rfl) fun a578 pb578 cap578 F578 w578 ho578 h578 => ?_
                simp only [List.cons_append, List.nil_append, List.set_cons_zero, List.set_cons_succ] at h578
                replace ho578 : LO D3 [] a578 pb578 (m569 ++ ([0] : List Int)).length cap578 F578 (m569 ++ ([0] : List Int)) := ho578.re (fun _ _ h => h)
                refine Plan.nilCheck rfl rfl ?_
                refine Plan.storeC h578 2 rfl rfl rfl rfl rfl FRef06.sz103 rfl fun w580 h580 => ?_
                simp only [List.cons_append, List.nil_append, List.set_cons_zero, List.set_cons_succ] at h580
                refine Plan.nil ?_
                refine blockR_norm ?_
                have h581 := St.pickT (C := [_, _, _]) h580 [1, 2] (by decide)
                simp only [pick, List.filterMap_cons, List.filterMap_nil, List.getElem?_cons_zero, List.getElem?_cons_succ, List.cons_append, List.nil_append] at h581
                exact iterR_norm ⟨_, hR, (m569 ++ ([0] : List Int)).length, a578, pb578, cap578, F578, (EnvHas.cons rfl (EnvHas.cons rfl (EnvHas.cons rfl EnvHas.nil))), h581, ho578⟩
              ·
                replace hR := ifF hR hc575
                refine W.condF (congrArg Value.bool (decide_eq_false hc575)) ?_
                refine W.exit (thenR_exit (iterR_exit (blockR_here ?_)))
                exact ⟨m569, (hx571 _ hR).symm, m569.length, am569, pm569, cm569, Fm569, (EnvHas.cons rfl (EnvHas.cons rfl (EnvHas.cons rfl EnvHas.nil))), h572, hm569⟩
            ·
              rintro ev582 wl582 ⟨y_m570, hy582, n_m570, am570, pm570, cm570, Fm570, he582, h582, hm570⟩
              obtain ⟨ev582, rfl⟩ := he582.open
              subst hy582
              replace hR := hR0571
              obtain rfl : List.length (α := Int) m570 = n_m570 := hm570.hl
              refine hK551 _ _ ?_; clear hK551
              refine W.regionD FRef06.mixed [(0, true), (1, true), (2, true), (3, true), (4, true), (5, true), (6, true), (7, true), (8, true), (9, true), (10, true), (11, true), (12, true), (13, false)] (by kernel_rfl) ?_
              have h583 := h582.drew
              refine Plan.move_ptr rfl rfl ?_
              refine Plan.nilCheck rfl rfl ?_
              refine Plan.load0 h583 1 rfl rfl rfl (by omega) FRef06.sc103 ?_
              refine Plan.move_int rfl rfl ?_
              refine Plan.move_ptr rfl rfl ?_
              refine Plan.nilCheck rfl rfl ?_
              refine Plan.load0 h583 1 rfl rfl rfl (by omega) FRef06.sc103 ?_
              refine Plan.move_int rfl rfl ?_
              obtain ⟨hc584, hR⟩ := hR
              refine Plan.idxLVS (D := D3) (j := (((i_409 : Nat) : Int) - 16).toNat) h583 (LO.lvf D3_flat hm570 0 rfl) FRef06.sl103 rfl rfl (congrArg (Value.int .i64) (Int.toNat_of_nonneg hc584.1).symm) (toNat_lt hc584.1 hc584.2) ?_
              refine Plan.loadLV1 (D := D3) (X := m570) (j := (((i_409 : Nat) : Int) - 16).toNat) h583 (0 : Int) (fun _ x => .int .i64 x) (LO.lvf D3_flat hm570 0 rfl) rfl rfl (toNat_lt hc584.1 hc584.2) rfl (fun _ _ => rfl) FRef06.sc3 fun b585 r585 hs585 hr585 => ?_
              refine Plan.move_int rfl rfl ?_
              obtain ⟨hc586, hR⟩ := hR
              refine Plan.addI (a := (m570.getD ((((i_409 : Nat) : Int) - 16).toNat) (0 : Int))) (b := (38 * (d_1.getD i_409 (0 : Int)))) rfl rfl rfl (by omega) ?_
              obtain ⟨hc587, hR⟩ := hR
              refine Plan.idxLVS (D := D3) (j := (((i_409 : Nat) : Int) - 16).toNat) h583 (LO.lvf D3_flat hm570 0 rfl) FRef06.sl103 rfl rfl (congrArg (Value.int .i64) (Int.toNat_of_nonneg hc587.1).symm) (toNat_lt hc587.1 hc587.2) ?_
              refine Plan.storeLO1 (D := D3) (j := (((i_409 : Nat) : Int) - 16).toNat) h583 () ((m570.getD ((((i_409 : Nat) : Int) - 16).toNat) (0 : Int)) + (38 * (d_1.getD i_409 (0 : Int)))) (.int .i64 ((m570.getD ((((i_409 : Nat) : Int) - 16).toNat) (0 : Int)) + (38 * (d_1.getD i_409 (0 : Int))))) 0 hm570 trivial rfl rfl rfl rfl rfl (toNat_lt hc587.1 hc587.2) rfl FRef06.sz3 rfl fun w588 F588 ho588 h588 => ?_
              simp only [List.cons_append, List.nil_append, List.set_cons_zero, List.set_cons_succ] at h588
              have e588 : (m570.set ((((i_409 : Nat) : Int) - 16).toNat) ((m570.getD ((((i_409 : Nat) : Int) - 16).toNat) (0 : Int)) + (38 * (d_1.getD i_409 (0 : Int))))).length = m570.length := List.length_set
              refine Plan.nil ?_
              refine finR_norm ?_
              refine RetOk.mk .nil ?_
              exact ⟨(m570.set ((((i_409 : Nat) : Int) - 16).toNat) ((m570.getD ((((i_409 : Nat) : Int) - 16).toNat) (0 : Int)) + (38 * (d_1.getD i_409 (0 : Int))))), hR, m570.length, am570, pm570, cm570, F588, rfl, h588, (show LO D3 [] _ _ m570.length _ _ _ from ho588)⟩
          ·
            rintro _ w589 ⟨y_m549, hy589_0, n_m549, am549, pm549, cm549, Fm549, rfl, h589, hm549⟩
            subst hy589_0
            obtain rfl : List.length (α := Int) m549 = n_m549 := hm549.hl
            replace hR := hR0550
            refine ⟨_, rfl, .inl ⟨PIn.keep PIn.nil h589, ?_⟩⟩
            refine Plan.nil ?_
            refine blockR_norm ?_
            refine hK417 _ _ ?_; clear hK417
            refine W.regionT [(0, true), (1, true), (2, true)] (by kernel_rfl) ?_
            refine Plan.move_int rfl rfl ?_
            obtain ⟨hc590, hR⟩ := hR
            refine Plan.addN (a := i_409) (b := 1) rfl rfl rfl (by omega) ?_
            refine Plan.assign_int rfl rfl ?_
            refine Plan.nil ?_
            exact iterR_norm ⟨_, hR, m549.length, am549, pm549, cm549, Fm549, (EnvHas.cons rfl (EnvHas.cons rfl (EnvHas.cons rfl EnvHas.nil))), h589, hm549⟩
      ·
        replace hR := ifF hR hc416
        refine W.condF (congrArg Value.bool (decide_eq_false hc416)) ?_
        refine W.exit (thenR_exit (iterR_exit (blockR_here ?_)))
        exact ⟨m410, (hx412 _ hR).symm, m410.length, am410, pm410, cm410, Fm410, (EnvHas.cons rfl EnvHas.nil), h413, hm410⟩
    ·
      rintro ev591 wl591 ⟨y_m411, hy591, n_m411, am411, pm411, cm411, Fm411, he591, h591, hm411⟩
      obtain ⟨ev591, rfl⟩ := he591.open
      subst hy591
      replace hR := hR0412
      obtain rfl : List.length (α := Int) m411 = n_m411 := hm411.hl
      refine hK53 _ _ ?_; clear hK53
      refine W.seq_k fun K592 hK592 => ?_
      refine W.regionT [(0, true), (1, true)] (by kernel_rfl) ?_
      refine Plan.load0 h591 1 rfl rfl rfl (by omega) FRef06.sc103 ?_
      refine Plan.assign_slice rfl rfl ?_
      refine Plan.nil ?_
      refine hK592 _ _ ?_; clear hK592
      refine W.ret (finR_ret ?_)
      have h593 := St.pickT (C := [_, _]) h591 [0] (by decide)
      simp only [pick, List.filterMap_cons, List.filterMap_nil, List.getElem?_cons_zero, List.getElem?_cons_succ, List.cons_append, List.nil_append] at h593
      subst r
      refine RetOk.mk (.tmp_slice rfl .nil) ?_
      exact ⟨am411, pm411, m411.length, cm411, Fm411, rfl, h593, hm411⟩


set_option maxRecDepth 8000 in
set_option maxHeartbeats 1000000 in
theorem letheref06_prime_ok {B : Nat} {w0 w : World} {L : List Rg}  {r : (Nat → Int)} (hR : letheref06_prime r) (HST : St B w0 (L) w) :
    Calls Tryd.prog 61 #[] w fun e w' => e = .returned (AG [(16, fun q => .int .i64 (r q))]) ∧ St B w0 (L) w' := by
  refine W.enter 12 Tryd.func61 rfl rfl rfl ?_
  unfold letheref06_prime at hR
  refine W.seq_k fun K1 hK1 => ?_
  refine W.regionT [(0, false)] (by kernel_rfl) ?_
  refine Plan.alloc HST rfl FRef06.z44 PIn.nil fun b2 w2 hb2 h2 => ?_
  simp only [rngs, Nat.zero_add, Nat.reduceAdd, List.cons_append, List.nil_append] at h2
  refine Plan.nil ?_
  refine hK1 _ _ ?_; clear hK1
  refine W.seq_k fun K3 hK3 => ?_
  refine W.regionT [(0, false)] (by kernel_rfl) ?_
  refine Plan.alloc h2 rfl FRef06.z44 PIn.nil fun b4 w4 hb4 h4 => ?_
  simp only [rngs, Nat.zero_add, Nat.reduceAdd, List.cons_append, List.nil_append] at h4
  refine Plan.nil ?_
  refine hK3 _ _ ?_; clear hK3
  refine W.seq_k fun K5 hK5 => ?_
  refine W.seq_k fun K6 hK6 => ?_
  refine W.regionT [(0, true)] (by kernel_rfl) ?_
  refine Plan.assign_int rfl rfl ?_
  refine Plan.nil ?_
  refine hK6 _ _ ?_; clear hK6
  obtain ⟨m21, hI22, hR022⟩ := hR
  refine W.cutN (fun e w => ∃ y_m21 : Nat → Int, m21 = y_m21 ∧ EnvHas e [(0, .pointer (some ⟨b2, 0, none⟩)), (1, .pointer (some ⟨b4, 0, none⟩))] ∧ St B w0 (⟨some b4, 0, 16, fun q => .int .i64 (y_m21 q), true⟩ :: ⟨some b2, 0, 16, fun q => .int .i64 ((fun _ => (0 : Int)) q), true⟩ :: L) w) ?_ ?_
  ·
    refine W.block ?_
    refine W.iter hI22 (fun (s22 : (Nat × (Nat → Int))) e w => EnvHas e [(0, .pointer (some ⟨b2, 0, none⟩)), (1, .pointer (some ⟨b4, 0, none⟩)), (2, VN s22.1)] ∧ St B w0 (⟨some b4, 0, 16, fun q => .int .i64 (s22.2 q), true⟩ :: ⟨some b2, 0, 16, fun q => .int .i64 ((fun _ => (0 : Int)) q), true⟩ :: L) w) ⟨(EnvHas.cons rfl (EnvHas.cons rfl (EnvHas.cons rfl EnvHas.nil))), h4⟩ ?_
    rintro ⟨i_19, m20⟩ o22 hR hx22 ev23 wl23 ⟨he23, h23⟩
    obtain ⟨ev23, rfl⟩ := he23.open
    unfold letheref06_prime_l0 at hR
    refine W.seq_k fun K24 hK24 => ?_
    refine W.seq_k fun K25 hK25 => ?_
    refine W.regionT [(0, true), (1, true)] (by kernel_rfl) ?_
    refine Plan.move_int rfl rfl ?_
    refine Plan.cmpP (a := (((i_19 : Nat) : Int) : Int)) (b := (16 : Int)) (p := i_19 < 16) rfl rfl rfl rfl icmp_ltN ?_
    refine Plan.nil ?_
    refine hK25 _ _ ?_; clear hK25
    by_cases hc26 : i_19 < 16
    ·
      replace hR := ifT hR hc26
      refine W.condT (congrArg Value.bool (decide_eq_true hc26)) ?_
      refine W.skip ?_
      refine hK24 _ _ ?_; clear hK24
      refine W.seq_k fun K27 hK27 => ?_
      refine W.block ?_
      refine W.regionT [(0, true), (1, true), (2, false)] (by kernel_rfl) ?_
      refine Plan.move_int rfl rfl ?_
      refine Plan.idxArr1 (j := i_19) FRef06.arr44 rfl rfl rfl (by omega) ?_
      refine Plan.storeI (j := i_19) (X := 65535) h23 0 rfl rfl rfl rfl (by omega) FRef06.sz3 rfl fun w28 h28 => ?_
      simp only [List.cons_append, List.nil_append, List.set_cons_zero, List.set_cons_succ] at h28
      refine Plan.nil ?_
      refine blockR_norm ?_
      refine hK27 _ _ ?_; clear hK27
      refine W.regionT [(0, true), (1, true), (2, true)] (by kernel_rfl) ?_
      refine Plan.move_int rfl rfl ?_
      refine Plan.addN (a := i_19) (b := 1) rfl rfl rfl (by omega) ?_
      refine Plan.assign_int rfl rfl ?_
      refine Plan.nil ?_
      exact iterR_norm ⟨_, hR, (EnvHas.cons rfl (EnvHas.cons rfl (EnvHas.cons rfl EnvHas.nil))), h28⟩
    ·
      replace hR := ifF hR hc26
      refine W.condF (congrArg Value.bool (decide_eq_false hc26)) ?_
      refine W.exit (thenR_exit (iterR_exit (blockR_here ?_)))
      exact ⟨m20, (hx22 _ hR).symm, (EnvHas.cons rfl (EnvHas.cons rfl EnvHas.nil)), h23⟩
  ·
    rintro ev29 wl29 ⟨y_m21, hy29, he29, h29⟩
    obtain ⟨ev29, rfl⟩ := he29.open
    subst hy29
    replace hR := hR022
    refine hK5 _ _ ?_; clear hK5
    refine W.seq_k fun K30 hK30 => ?_
    refine W.regionT [(0, true), (1, false)] (by kernel_rfl) ?_
    refine Plan.idxArr1 (j := 0) FRef06.arr44 rfl rfl rfl (by omega) ?_
    refine Plan.storeI (j := 0) (X := 65517) h29 0 rfl rfl rfl rfl (by omega) FRef06.sz3 rfl fun w31 h31 => ?_
    simp only [List.cons_append, List.nil_append, List.set_cons_zero, List.set_cons_succ] at h31
    refine Plan.nil ?_
    refine hK30 _ _ ?_; clear hK30
    refine W.seq_k fun K32 hK32 => ?_
    refine W.regionT [(0, true), (1, false)] (by kernel_rfl) ?_
    refine Plan.idxArr1 (j := 15) FRef06.arr44 rfl rfl rfl (by omega) ?_
    refine Plan.storeI (j := 15) (X := 32767) h31 0 rfl rfl rfl rfl (by omega) FRef06.sz3 rfl fun w33 h33 => ?_
    simp only [List.cons_append, List.nil_append, List.set_cons_zero, List.set_cons_succ] at h33
    refine Plan.nil ?_
    refine hK32 _ _ ?_; clear hK32
    refine W.seq_k fun K34 hK34 => ?_
    refine W.regionT [(0, true), (1, false)] (by kernel_rfl) ?_
    refine Plan.loadA1 h33 0 rfl rfl rfl FRef06.agg44 ?_
    refine Plan.storeA (f' := fun q => .int .i64 ((upd (upd m21 0 65517) 15 32767) q)) h33 1 rfl rfl rfl rfl (fun _ _ => rfl) FRef06.sz44 rfl fun w35 h35 => ?_
    simp only [List.cons_append, List.nil_append, List.set_cons_zero, List.set_cons_succ] at h35
    refine Plan.nil ?_
    refine hK34 _ _ ?_; clear hK34
    refine W.ret (finR_ret ?_)
    have h36 := St.pickT (C := [_, _]) h35 [] (by decide)
    simp only [pick, List.filterMap_cons, List.filterMap_nil, List.getElem?_cons_zero, List.getElem?_cons_succ, List.cons_append, List.nil_append] at h36
    subst r
    refine RetOk.mk (.agg h35 rfl (.cons 1 rfl .nil) FRef06.agg44 .nil) ?_
    exact ⟨rfl, h36⟩


set_option maxRecDepth 8000 in
set_option maxHeartbeats 1000000 in
theorem letheref06_less_ok {B : Nat} {w0 w : World} {L : List Rg} {a1 : Nat → Int} {b2 : Nat → Int} {r : Bool} (hR : letheref06_less a1 b2 r) (HST : St B w0 (L) w) :
    Calls Tryd.prog 60 #[AG [(16, fun q => .int .i64 (a1 q))], AG [(16, fun q => .int .i64 (b2 q))]] w fun e w' => e = .returned (.bool r) ∧ St B w0 (L) w' := by
  refine W.enter 24 Tryd.func60 rfl rfl rfl ?_
  unfold letheref06_less at hR
  refine W.seq_k fun K3 hK3 => ?_
  refine W.regionT [(0, false), (1, false), (2, true)] (by kernel_rfl) ?_
  refine Plan.boxA HST rfl rfl PIn.nil fun b4 w4 hb4 h4 => ?_
  simp only [rngs, Nat.zero_add, Nat.reduceAdd, List.cons_append, List.nil_append] at h4
  refine Plan.boxA h4 rfl rfl PIn.nil fun b5 w5 hb5 h5 => ?_
  simp only [rngs, Nat.zero_add, Nat.reduceAdd, List.cons_append, List.nil_append] at h5
  refine Plan.assign_bool rfl rfl ?_
  refine Plan.nil ?_
  refine hK3 _ _ ?_; clear hK3
  refine W.seq_k fun K6 hK6 => ?_
  refine W.seq_k fun K7 hK7 => ?_
  refine W.regionT [(0, true)] (by kernel_rfl) ?_
  refine Plan.assign_int rfl rfl ?_
  refine Plan.nil ?_
  refine hK7 _ _ ?_; clear hK7
  obtain ⟨x48, hI48, hR048⟩ := hR
  refine W.cutN (fun e w => x48 = some () ∧ EnvHas e [] ∧ St B w0 (L) w) ?_ ?_
  ·
    refine W.block ?_
    refine W.iter hI48 (fun (s48 : Int) e w => EnvHas e [(2, .pointer (some ⟨b4, 0, none⟩)), (3, .pointer (some ⟨b5, 0, none⟩)), (5, .int .i64 s48)] ∧ St B w0 (⟨some b5, 0, 16, fun q => .int .i64 (b2 q), true⟩ :: ⟨some b4, 0, 16, fun q => .int .i64 (a1 q), true⟩ :: L) w) ⟨(EnvHas.cons rfl (EnvHas.cons rfl (EnvHas.cons rfl EnvHas.nil))), h5⟩ ?_
    rintro i_47 o48 hR hx48 ev49 wl49 ⟨he49, h49⟩
    obtain ⟨ev49, rfl⟩ := he49.open
    unfold letheref06_less_l0 at hR
    refine W.seq_k fun K50 hK50 => ?_
    refine W.seq_k fun K51 hK51 => ?_
    refine W.regionT [(0, true), (1, true)] (by kernel_rfl) ?_
    refine Plan.move_int rfl rfl ?_
    refine Plan.cmpP (a := (i_47 : Int)) (b := (0 : Int)) (p := 0 ≤ i_47) rfl rfl rfl rfl icmp_ge ?_
    refine Plan.nil ?_
    refine hK51 _ _ ?_; clear hK51
    by_cases hc52 : 0 ≤ i_47
    ·
      replace hR := ifT hR hc52
      refine W.condT (congrArg Value.bool (decide_eq_true hc52)) ?_
      refine W.skip ?_
      refine hK50 _ _ ?_; clear hK50
      refine W.seq_k fun K53 hK53 => ?_
      refine W.block ?_
      refine W.seq_k fun K54 hK54 => ?_
      refine W.regionD FRef06.mixed [(0, true), (1, true), (2, true), (3, true), (4, true), (5, true), (6, true)] (by kernel_rfl) ?_
      have h55 := h49.drew
      refine Plan.move_int rfl rfl ?_
      obtain ⟨hc56, hR⟩ := hR
      refine Plan.idxArr1 (j := i_47.toNat) FRef06.arr44 rfl rfl (congrArg (Value.int .i64) (Int.toNat_of_nonneg hc56.1).symm) (by omega) ?_
      refine Plan.load1 (j := i_47.toNat) h55 1 rfl rfl rfl (by omega) FRef06.sc3 ?_
      refine Plan.move_int rfl rfl ?_
      obtain ⟨hc57, hR⟩ := hR
      refine Plan.idxArr1 (j := i_47.toNat) FRef06.arr44 rfl rfl (congrArg (Value.int .i64) (Int.toNat_of_nonneg hc57.1).symm) (by omega) ?_
      refine Plan.load1 (j := i_47.toNat) h55 0 rfl rfl rfl (by omega) FRef06.sc3 ?_
      refine Plan.cmpP (a := ((a1 i_47.toNat) : Int)) (b := ((b2 i_47.toNat) : Int)) (p := (a1 i_47.toNat) ≠ (b2 i_47.toNat)) rfl rfl rfl rfl icmp_ne ?_
      refine Plan.nil ?_
      refine hK54 _ _ ?_; clear hK54
      by_cases hc58 : (a1 i_47.toNat) ≠ (b2 i_47.toNat)
      ·
        replace hR := ifT hR hc58
        refine W.condT (congrArg Value.bool (decide_eq_true hc58)) ?_
        refine W.seq_k fun K59 hK59 => ?_
        refine W.regionD FRef06.mixed [(0, true), (1, true), (2, true), (3, true), (4, true), (5, true), (6, true), (7, true)] (by kernel_rfl) ?_
        have h60 := h55.drew
        refine Plan.move_int rfl rfl ?_
        obtain ⟨hc61, hR⟩ := hR
        refine Plan.idxArr1 (j := i_47.toNat) FRef06.arr44 rfl rfl (congrArg (Value.int .i64) (Int.toNat_of_nonneg hc61.1).symm) (by omega) ?_
        refine Plan.load1 (j := i_47.toNat) h60 1 rfl rfl rfl (by omega) FRef06.sc3 ?_
        refine Plan.move_int rfl rfl ?_
        obtain ⟨hc62, hR⟩ := hR
        refine Plan.idxArr1 (j := i_47.toNat) FRef06.arr44 rfl rfl (congrArg (Value.int .i64) (Int.toNat_of_nonneg hc62.1).symm) (by omega) ?_
        refine Plan.load1 (j := i_47.toNat) h60 0 rfl rfl rfl (by omega) FRef06.sc3 ?_
        refine Plan.cmpP (a := ((a1 i_47.toNat) : Int)) (b := ((b2 i_47.toNat) : Int)) (p := (a1 i_47.toNat) < (b2 i_47.toNat)) rfl rfl rfl rfl icmp_lt ?_
        refine Plan.assign_bool rfl rfl ?_
        refine Plan.nil ?_
        refine hK59 _ _ ?_; clear hK59
        refine W.ret (blockR_ret (thenR_ret (iterR_ret (blockR_ret (thenR_ret (thenR_ret (finR_ret ?_)))))))
        have h63 := St.pickT (C := [_, _]) h60 [] (by decide)
        simp only [pick, List.filterMap_cons, List.filterMap_nil, List.getElem?_cons_zero, List.getElem?_cons_succ, List.cons_append, List.nil_append] at h63
        replace hR := hR.2
        subst r
        refine RetOk.mk (.tmp_bool rfl .nil) ?_
        exact ⟨rfl, h63⟩
      ·
        replace hR := ifF hR hc58
        refine W.condF (congrArg Value.bool (decide_eq_false hc58)) ?_
        refine W.skip ?_
        refine blockR_norm ?_
        refine hK53 _ _ ?_; clear hK53
        refine W.regionT [(0, true), (1, true), (2, true)] (by kernel_rfl) ?_
        refine Plan.move_int rfl rfl ?_
        obtain ⟨hc64, hR⟩ := hR
        refine Plan.subI (a := i_47) (b := 1) rfl rfl rfl (by omega) ?_
        refine Plan.assign_int rfl rfl ?_
        refine Plan.nil ?_
        exact iterR_norm ⟨_, hR, (EnvHas.cons rfl (EnvHas.cons rfl (EnvHas.cons rfl EnvHas.nil))), h55⟩
    ·
      replace hR := ifF hR hc52
      refine W.condF (congrArg Value.bool (decide_eq_false hc52)) ?_
      refine W.exit (thenR_exit (iterR_exit (blockR_here ?_)))
      have h65 := St.pickT (C := [_, _]) h49 [] (by decide)
      simp only [pick, List.filterMap_cons, List.filterMap_nil, List.getElem?_cons_zero, List.getElem?_cons_succ, List.cons_append, List.nil_append] at h65
      exact ⟨(hx48 _ hR).symm, EnvHas.nil, h65⟩
  ·
    rintro ev66 wl66 ⟨hy66, he66, h66⟩
    obtain ⟨ev66, rfl⟩ := he66.open
    replace hR := hR048  hy66
    refine hK6 _ _ ?_; clear hK6
    refine W.seq_k fun K67 hK67 => ?_
    refine W.regionT [(0, true)] (by kernel_rfl) ?_
    refine Plan.assign_bool rfl rfl ?_
    refine Plan.nil ?_
    refine hK67 _ _ ?_; clear hK67
    refine W.ret (finR_ret ?_)
    subst r
    refine RetOk.mk (.tmp_bool rfl .nil) ?_
    exact ⟨rfl, h66⟩


set_option maxRecDepth 8000 in
set_option maxHeartbeats 1000000 in
theorem letheref06_minus_ok {B : Nat} {w0 w : World} {L : List Rg} {a1 : Nat → Int} {b2 : Nat → Int} {r : (Nat → Int)} (hR : letheref06_minus a1 b2 r) (HST : St B w0 (L) w) :
    Calls Tryd.prog 78 #[AG [(16, fun q => .int .i64 (a1 q))], AG [(16, fun q => .int .i64 (b2 q))]] w fun e w' => e = .returned (AG [(16, fun q => .int .i64 (r q))]) ∧ St B w0 (L) w' := by
  refine W.enter 29 Tryd.func78 rfl rfl rfl ?_
  unfold letheref06_minus at hR
  refine W.seq_k fun K3 hK3 => ?_
  refine W.regionT [(0, false), (1, false), (2, false)] (by kernel_rfl) ?_
  refine Plan.boxA HST rfl rfl PIn.nil fun b4 w4 hb4 h4 => ?_
  simp only [rngs, Nat.zero_add, Nat.reduceAdd, List.cons_append, List.nil_append] at h4
  refine Plan.boxA h4 rfl rfl PIn.nil fun b5 w5 hb5 h5 => ?_
  simp only [rngs, Nat.zero_add, Nat.reduceAdd, List.cons_append, List.nil_append] at h5
  refine Plan.alloc h5 rfl FRef06.z44 PIn.nil fun b6 w6 hb6 h6 => ?_
  simp only [rngs, Nat.zero_add, Nat.reduceAdd, List.cons_append, List.nil_append] at h6
  refine Plan.nil ?_
  refine hK3 _ _ ?_; clear hK3
  refine W.seq_k fun K7 hK7 => ?_
  refine W.regionT [(0, true)] (by kernel_rfl) ?_
  refine Plan.assign_int rfl rfl ?_
  refine Plan.nil ?_
  refine hK7 _ _ ?_; clear hK7
  refine W.seq_k fun K8 hK8 => ?_
  refine W.seq_k fun K9 hK9 => ?_
  refine W.regionT [(0, true)] (by kernel_rfl) ?_
  refine Plan.assign_int rfl rfl ?_
  refine Plan.nil ?_
  refine hK9 _ _ ?_; clear hK9
  obtain ⟨m62, hI63, hR063⟩ := hR
  refine W.cutN (fun e w => ∃ y_m62 : Nat → Int, m62 = y_m62 ∧ EnvHas e [(2, .pointer (some ⟨b4, 0, none⟩)), (4, .pointer (some ⟨b6, 0, none⟩))] ∧ St B w0 (⟨some b6, 0, 16, fun q => .int .i64 ((fun _ => (0 : Int)) q), true⟩ :: ⟨some b4, 0, 16, fun q => .int .i64 (y_m62 q), true⟩ :: L) w) ?_ ?_
  ·
    refine W.block ?_
    refine W.iter hI63 (fun (s63 : (Nat × Nat × (Nat → Int))) e w => EnvHas e [(2, .pointer (some ⟨b4, 0, none⟩)), (3, .pointer (some ⟨b5, 0, none⟩)), (4, .pointer (some ⟨b6, 0, none⟩)), (5, VN s63.1), (6, VN s63.2.1)] ∧ St B w0 (⟨some b6, 0, 16, fun q => .int .i64 ((fun _ => (0 : Int)) q), true⟩ :: ⟨some b5, 0, 16, fun q => .int .i64 (b2 q), true⟩ :: ⟨some b4, 0, 16, fun q => .int .i64 (s63.2.2 q), true⟩ :: L) w) ⟨(EnvHas.cons rfl (EnvHas.cons rfl (EnvHas.cons rfl (EnvHas.cons rfl (EnvHas.cons rfl EnvHas.nil))))), h6⟩ ?_
    rintro ⟨borrow59, i_60, m61⟩ o63 hR hx63 ev64 wl64 ⟨he64, h64⟩
    obtain ⟨ev64, rfl⟩ := he64.open
    unfold letheref06_minus_l0 at hR
    refine W.seq_k fun K65 hK65 => ?_
    refine W.seq_k fun K66 hK66 => ?_
    refine W.regionT [(0, true), (1, true)] (by kernel_rfl) ?_
    refine Plan.move_int rfl rfl ?_
    refine Plan.cmpP (a := (((i_60 : Nat) : Int) : Int)) (b := (16 : Int)) (p := i_60 < 16) rfl rfl rfl rfl icmp_ltN ?_
    refine Plan.nil ?_
    refine hK66 _ _ ?_; clear hK66
    by_cases hc67 : i_60 < 16
    ·
      replace hR := ifT hR hc67
      refine W.condT (congrArg Value.bool (decide_eq_true hc67)) ?_
      refine W.skip ?_
      refine hK65 _ _ ?_; clear hK65
      refine W.seq_k fun K68 hK68 => ?_
      refine W.block ?_
      refine W.seq_k fun K69 hK69 => ?_
      refine W.regionD FRef06.mixed [(0, true), (1, true), (2, true), (3, true), (4, true), (5, true), (6, true), (7, true), (8, true), (9, true)] (by kernel_rfl) ?_
      have h70 := h64.drew
      refine Plan.move_int rfl rfl ?_
      refine Plan.idxArr1 (j := i_60) FRef06.arr44 rfl rfl rfl (by omega) ?_
      refine Plan.load1 (j := i_60) h70 2 rfl rfl rfl (by omega) FRef06.sc3 ?_
      refine Plan.move_int rfl rfl ?_
      refine Plan.idxArr1 (j := i_60) FRef06.arr44 rfl rfl rfl (by omega) ?_
      refine Plan.load1 (j := i_60) h70 1 rfl rfl rfl (by omega) FRef06.sc3 ?_
      obtain ⟨hc71, hR⟩ := hR
      refine Plan.subI (a := (m61 i_60)) (b := (b2 i_60)) rfl rfl rfl (by omega) ?_
      refine Plan.move_int rfl rfl ?_
      obtain ⟨hc72, hR⟩ := hR
      refine Plan.subI (a := ((m61 i_60) - (b2 i_60))) (b := ((borrow59 : Nat) : Int)) rfl rfl rfl (by omega) ?_
      refine Plan.assign_int rfl rfl ?_
      refine Plan.nil ?_
      refine hK69 _ _ ?_; clear hK69
      refine W.seq_k fun K73 hK73 => ?_
      refine W.regionT [(0, true)] (by kernel_rfl) ?_
      refine Plan.assign_int rfl rfl ?_
      refine Plan.nil ?_
      refine hK73 _ _ ?_; clear hK73
      refine W.seq_k fun K74 hK74 => ?_
      obtain ⟨borrow79, v80, hX81, hR081⟩ := hR
      refine W.cutN (fun e w => ∃ y_borrow79 : Nat, ∃ y_v80 : Int, (borrow79 = y_borrow79 ∧ v80 = y_v80) ∧ EnvHas e [(2, .pointer (some ⟨b4, 0, none⟩)), (3, .pointer (some ⟨b5, 0, none⟩)), (4, .pointer (some ⟨b6, 0, none⟩)), (5, VN y_borrow79), (6, VN i_60), (7, .int .i64 y_v80)] ∧ St B w0 (⟨some b6, 0, 16, fun q => .int .i64 ((fun _ => (0 : Int)) q), true⟩ :: ⟨some b5, 0, 16, fun q => .int .i64 (b2 q), true⟩ :: ⟨some b4, 0, 16, fun q => .int .i64 (m61 q), true⟩ :: L) w) ?_ ?_
      ·
        replace hR := hX81
        refine W.seq_k fun K82 hK82 => ?_
        refine W.regionT [(0, true), (1, true)] (by kernel_rfl) ?_
        refine Plan.move_int rfl rfl ?_
        refine Plan.cmpP (a := ((((m61 i_60) - (b2 i_60)) - ((borrow59 : Nat) : Int)) : Int)) (b := (0 : Int)) (p := (((m61 i_60) - (b2 i_60)) - ((borrow59 : Nat) : Int)) < 0) rfl rfl rfl rfl icmp_lt ?_
        refine Plan.nil ?_
        refine hK82 _ _ ?_; clear hK82
        by_cases hc83 : (((m61 i_60) - (b2 i_60)) - ((borrow59 : Nat) : Int)) < 0
        ·
          replace hR := ifT hR hc83
          refine W.condT (congrArg Value.bool (decide_eq_true hc83)) ?_
          refine W.seq_k fun K84 hK84 => ?_
          refine W.regionT [(0, true), (1, true), (2, true)] (by kernel_rfl) ?_
          refine Plan.move_int rfl rfl ?_
          obtain ⟨hc85, hR⟩ := hR
          refine Plan.addI (a := (((m61 i_60) - (b2 i_60)) - ((borrow59 : Nat) : Int))) (b := 65536) rfl rfl rfl (by omega) ?_
          refine Plan.assign_int rfl rfl ?_
          refine Plan.nil ?_
          refine hK84 _ _ ?_; clear hK84
          refine W.regionT [(0, true)] (by kernel_rfl) ?_
          refine Plan.assign_int rfl rfl ?_
          refine Plan.nil ?_
          exact ⟨1, ((((m61 i_60) - (b2 i_60)) - ((borrow59 : Nat) : Int)) + 65536), hR, (EnvHas.cons rfl (EnvHas.cons rfl (EnvHas.cons rfl (EnvHas.cons rfl (EnvHas.cons rfl (EnvHas.cons rfl EnvHas.nil)))))), h70⟩
        ·
          replace hR := ifF hR hc83
          refine W.condF (congrArg Value.bool (decide_eq_false hc83)) ?_
          refine W.skip ?_
          exact ⟨0, (((m61 i_60) - (b2 i_60)) - ((borrow59 : Nat) : Int)), hR, (EnvHas.cons rfl (EnvHas.cons rfl (EnvHas.cons rfl (EnvHas.cons rfl (EnvHas.cons rfl (EnvHas.cons rfl EnvHas.nil)))))), h70⟩
      ·
        rintro ev86 wl86 ⟨y_borrow79, y_v80, ⟨hy86_0, hy86_1⟩, he86, h86⟩
        subst hy86_0
        subst hy86_1
        obtain ⟨ev86, rfl⟩ := he86.open
        replace hR := hR081
        refine hK74 _ _ ?_; clear hK74
        refine W.regionT [(0, true), (1, true), (2, true), (3, false)] (by kernel_rfl) ?_
        refine Plan.move_int rfl rfl ?_
        refine Plan.move_int rfl rfl ?_
        refine Plan.idxArr1 (j := i_60) FRef06.arr44 rfl rfl rfl (by omega) ?_
        refine Plan.storeI (j := i_60) (X := v80) h86 2 rfl rfl rfl rfl (by omega) FRef06.sz3 rfl fun w87 h87 => ?_
        simp only [List.cons_append, List.nil_append, List.set_cons_zero, List.set_cons_succ] at h87
        refine Plan.nil ?_
        refine blockR_norm ?_
        refine hK68 _ _ ?_; clear hK68
        refine W.regionT [(0, true), (1, true), (2, true)] (by kernel_rfl) ?_
        refine Plan.move_int rfl rfl ?_
        refine Plan.addN (a := i_60) (b := 1) rfl rfl rfl (by omega) ?_
        refine Plan.assign_int rfl rfl ?_
        refine Plan.nil ?_
        exact iterR_norm ⟨_, hR, (EnvHas.cons rfl (EnvHas.cons rfl (EnvHas.cons rfl (EnvHas.cons rfl (EnvHas.cons rfl EnvHas.nil))))), h87⟩
    ·
      replace hR := ifF hR hc67
      refine W.condF (congrArg Value.bool (decide_eq_false hc67)) ?_
      refine W.exit (thenR_exit (iterR_exit (blockR_here ?_)))
      have h88 := St.pickT (C := [_, _, _]) h64 [0, 2] (by decide)
      simp only [pick, List.filterMap_cons, List.filterMap_nil, List.getElem?_cons_zero, List.getElem?_cons_succ, List.cons_append, List.nil_append] at h88
      exact ⟨m61, (hx63 _ hR).symm, (EnvHas.cons rfl (EnvHas.cons rfl EnvHas.nil)), h88⟩
  ·
    rintro ev89 wl89 ⟨y_m62, hy89, he89, h89⟩
    obtain ⟨ev89, rfl⟩ := he89.open
    subst hy89
    replace hR := hR063
    refine hK8 _ _ ?_; clear hK8
    refine W.seq_k fun K90 hK90 => ?_
    refine W.regionT [(0, true), (1, false)] (by kernel_rfl) ?_
    refine Plan.loadA1 h89 1 rfl rfl rfl FRef06.agg44 ?_
    refine Plan.storeA (f' := fun q => .int .i64 (m62 q)) h89 0 rfl rfl rfl rfl (fun _ _ => rfl) FRef06.sz44 rfl fun w91 h91 => ?_
    simp only [List.cons_append, List.nil_append, List.set_cons_zero, List.set_cons_succ] at h91
    refine Plan.nil ?_
    refine hK90 _ _ ?_; clear hK90
    refine W.ret (finR_ret ?_)
    have h92 := St.pickT (C := [_, _]) h91 [] (by decide)
    simp only [pick, List.filterMap_cons, List.filterMap_nil, List.getElem?_cons_zero, List.getElem?_cons_succ, List.cons_append, List.nil_append] at h92
    subst r
    refine RetOk.mk (.agg h91 rfl (.cons 0 rfl .nil) FRef06.agg44 .nil) ?_
    exact ⟨rfl, h92⟩


set_option maxRecDepth 8000 in
set_option maxHeartbeats 1000000 in
theorem letheref06_reduced_ok {B : Nat} {w0 w : World} {L : List Rg} {d_1 : List Int} {ad_1 : Option Addr} {nd_1 cd_1 id_1 : Nat} (hd_1 : LV D3 L id_1 ad_1 nd_1 cd_1 d_1) {r : (Nat → Int)} (hR : letheref06_reduced d_1 r) (HST : St B w0 (L) w) :
    Calls Tryd.prog 59 #[.slice ad_1 nd_1 cd_1] w fun e w' => e = .returned (AG [(16, fun q => .int .i64 (r q))]) ∧ St B w0 (L) w' := by
  refine W.enter 48 Tryd.func59 rfl rfl rfl ?_
  unfold letheref06_reduced at hR
  have ed_1 := hd_1.hl; subst ed_1
  refine W.seq_k fun K2 hK2 => ?_
  refine W.regionT [(0, false)] (by kernel_rfl) ?_
  refine Plan.alloc HST rfl FRef06.z44 PIn.nil fun b3 w3 hb3 h3 => ?_
  simp only [rngs, Nat.zero_add, Nat.reduceAdd, List.cons_append, List.nil_append] at h3
  refine Plan.nil ?_
  refine hK2 _ _ ?_; clear hK2
  refine W.seq_k fun K4 hK4 => ?_
  have h99 : St B w0 (⟨none, 0, 0 * 1, fun _ => undef, true⟩ :: _) _ := h3.nilE (fun _ => undef)
  obtain ⟨d_97, hI98, hR098⟩ := hR
  refine W.cutN (fun e w => ∃ y_d_97 : List Int, d_97 = y_d_97 ∧ ∃ rd_97 : Rg, ∃ n_d_97 : Nat, ∃ id_97 : Nat, ∃ ad_97 : Option Addr, ∃ cd_97 : Nat, EnvHas e [(0, .slice ad_97 n_d_97 cd_97), (2, .pointer (some ⟨b3, 0, none⟩))] ∧ St B w0 (rd_97 :: ⟨some b3, 0, 16, fun q => .int .i64 ((fun _ => (0 : Int)) q), true⟩ :: L) w ∧ LV D3 (rd_97 :: L) id_97 ad_97 n_d_97 cd_97 y_d_97) ?_ ?_
  ·
    refine W.block ?_
    refine W.iter hI98 (fun (s98 : (List Int)) e w => ∃ rd_96 : Rg, ∃ n_d_96 : Nat, ∃ id_96 : Nat, ∃ ad_96 : Option Addr, ∃ cd_96 : Nat, EnvHas e [(0, .slice ad_96 n_d_96 cd_96), (2, .pointer (some ⟨b3, 0, none⟩))] ∧ St B w0 (rd_96 :: ⟨some b3, 0, 16, fun q => .int .i64 ((fun _ => (0 : Int)) q), true⟩ :: L) w ∧ LV D3 (rd_96 :: L) id_96 ad_96 n_d_96 cd_96 s98) ⟨⟨none, 0, 0 * 1, (fun _ => undef), true⟩, d_1.length, (id_1 + 1), ad_1, cd_1, (EnvHas.cons rfl (EnvHas.cons rfl EnvHas.nil)), h99, (hd_1.app [_])⟩ ?_
    rintro d_96 o98 hR hx98 ev100 wl100 ⟨rd_96, n_d_96, id_96, ad_96, cd_96, he100, h100, hd_96⟩
    obtain rfl : List.length (α := Int) d_96 = n_d_96 := hd_96.hl
    obtain ⟨ev100, rfl⟩ := he100.open
    unfold letheref06_reduced_l0 at hR
    refine W.seq_k fun K101 hK101 => ?_
    obtain ⟨ok108, hX108, hR0108⟩ := hR
    refine W.cutN (fun e w => (ok108 = true) ∧ EnvHas e [(0, .slice ad_96 d_96.length cd_96), (2, .pointer (some ⟨b3, 0, none⟩))] ∧ St B w0 (rd_96 :: ⟨some b3, 0, 16, fun q => .int .i64 ((fun _ => (0 : Int)) q), true⟩ :: L) w) ?_ ?_
    ·
      replace hR := hX108
      refine W.seq_k fun K109 hK109 => ?_
      refine W.regionT [(0, true), (1, true), (2, true), (3, true), (4, true), (5, false), (6, true)] (by kernel_rfl) ?_
      refine Plan.move_slice rfl rfl ?_
      refine Plan.len FRef06.isl103 rfl rfl ?_
      by_cases hc110 : 16 < d_96.length
      ·
        replace hR := ifT hR hc110
        refine Plan.cmpV (a := (((d_96.length : Nat) : Int) : Int)) (b := (16 : Int)) (p := 16 < d_96.length) (v := true) rfl rfl rfl rfl icmp_gtN (decide_eq_true hc110) ?_
        refine Plan.move_bool rfl rfl ?_
        refine Plan.passed rfl ?_
        refine Plan.passed rfl ?_
        refine Plan.pickTb rfl rfl rfl ?_
        refine Plan.nil ?_
        refine hK109 _ _ ?_; clear hK109
        refine W.condT rfl ?_
        refine W.skip ?_
        exact ⟨hR, (EnvHas.cons rfl (EnvHas.cons rfl EnvHas.nil)), h100⟩
      ·
        replace hR := ifF hR hc110
        refine Plan.cmpV (a := (((d_96.length : Nat) : Int) : Int)) (b := (16 : Int)) (p := 16 < d_96.length) (v := false) rfl rfl rfl rfl icmp_gtN (decide_eq_false hc110) ?_
        refine Plan.move_bool rfl rfl ?_
        refine Plan.move_slice rfl rfl ?_
        obtain ⟨x_112, hr111, hR⟩ := hR
        refine Plan.call (vs := [.slice ad_96 d_96.length cd_96]) rfl FRef06.call75 rfl (letheref06_carries_ok (by exact (LV.in2 (D' := [_, _]) D3_flat hd_96 0 rfl).choose_spec) hr111 h100) ?_
        rintro _ w113 ⟨rfl, h113⟩
        refine ⟨_, rfl, .inl ⟨PIn.keep PIn.nil h113, ?_⟩⟩
        refine Plan.pickFb rfl rfl rfl ?_
        refine Plan.nil ?_
        refine hK109 _ _ ?_; clear hK109
        by_cases hc114 : x_112 = true
        ·
          replace hR := ifT hR hc114
          refine W.condT (congrArg Value.bool hc114) ?_
          refine W.skip ?_
          exact ⟨hR, (EnvHas.cons rfl (EnvHas.cons rfl EnvHas.nil)), h113⟩
        ·
          replace hR := ifF hR hc114
          refine W.condF (congrArg Value.bool (Bool.eq_false_iff.2 hc114)) ?_
          refine W.exit (thenR_exit (thenR_exit (iterR_exit (blockR_here ?_))))
          replace hR := hR.2
          exact ⟨d_96, (hx98 _ hR).symm, rd_96, d_96.length, id_96, ad_96, cd_96, (EnvHas.cons rfl (EnvHas.cons rfl EnvHas.nil)), h113, hd_96⟩
    ·
      rintro ev115 wl115 ⟨hy115_0, he115, h115⟩
      obtain ⟨ev115, rfl⟩ := he115.open
      replace hR := hR0108 hy115_0
      refine hK101 _ _ ?_; clear hK101
      refine W.block ?_
      refine W.seq_k fun K116 hK116 => ?_
      refine W.regionT [(0, true), (1, false), (2, true)] (by kernel_rfl) ?_
      refine Plan.move_slice rfl rfl ?_
      obtain ⟨x_118, hr117, hR⟩ := hR
      refine Plan.call (vs := [.slice ad_96 d_96.length cd_96]) rfl FRef06.call76 rfl (letheref06_carried_ok (by exact (LV.in2 (D' := [_, _]) D3_flat hd_96 0 rfl).choose_spec) hr117 h115) ?_
      rintro _ w124 ⟨ay0_119, py0_120, ny0_121, cy0_122, Fy0_123, rfl, h124, hf124_0⟩
      obtain rfl := hf124_0.hl
      refine ⟨_, rfl, .inl ⟨PIn.keep PIn.nil h124, ?_⟩⟩
      refine Plan.assign_slice rfl rfl ?_
      refine Plan.nil ?_
      refine hK116 _ _ ?_; clear hK116
      refine W.seq_k fun K125 hK125 => ?_
      refine W.regionT [(0, true), (1, true), (2, true), (3, true), (4, true), (5, true), (6, true), (7, true), (8, true)] (by kernel_rfl) ?_
      refine Plan.move_slice rfl rfl ?_
      refine Plan.len FRef06.isl103 rfl rfl ?_
      by_cases hc126 : 16 < x_118.length
      ·
        replace hR := ifT hR hc126
        refine Plan.cmpV (a := (((x_118.length : Nat) : Int) : Int)) (b := (16 : Int)) (p := 16 < x_118.length) (v := true) rfl rfl rfl rfl icmp_gtN (decide_eq_true hc126) ?_
        refine Plan.move_bool rfl rfl ?_
        refine Plan.passed rfl ?_
        refine Plan.passed rfl ?_
        refine Plan.passed rfl ?_
        refine Plan.passed rfl ?_
        refine Plan.pickTb rfl rfl rfl ?_
        refine Plan.nil ?_
        refine hK125 _ _ ?_; clear hK125
        refine W.condT rfl ?_
        refine W.regionT [(0, true), (1, false), (2, true)] (by kernel_rfl) ?_
        refine Plan.move_slice rfl rfl ?_
        obtain ⟨x_128, hr127, hR⟩ := hR
        refine Plan.call (vs := [.slice ay0_119 x_118.length cy0_122]) rfl FRef06.call77 rfl (letheref06_folded_ok (by exact (LO.lvf D3_flat hf124_0 0 rfl)) hr127 h124) ?_
        rintro _ w134 ⟨ay0_129, py0_130, ny0_131, cy0_132, Fy0_133, rfl, h134, hf134_0⟩
        obtain rfl := hf134_0.hl
        refine ⟨_, rfl, .inl ⟨PIn.keep PIn.nil h134, ?_⟩⟩
        refine Plan.assign_slice rfl rfl ?_
        refine Plan.nil ?_
        refine blockR_norm ?_
        have h135 := St.pickT (C := [_, _, _, _]) h134 [0, 3] (by decide)
        simp only [pick, List.filterMap_cons, List.filterMap_nil, List.getElem?_cons_zero, List.getElem?_cons_succ, List.cons_append, List.nil_append] at h135
        exact iterR_norm ⟨_, hR, ⟨py0_130, 0, cy0_132 * 1, Fy0_133, true⟩, x_128.length, 0, ay0_129, cy0_132, (EnvHas.cons rfl (EnvHas.cons rfl EnvHas.nil)), h135, (LO.lvf D3_flat hf134_0 0 rfl)⟩
      ·
        replace hR := ifF hR hc126
        refine Plan.cmpV (a := (((x_118.length : Nat) : Int) : Int)) (b := (16 : Int)) (p := 16 < x_118.length) (v := false) rfl rfl rfl rfl icmp_gtN (decide_eq_false hc126) ?_
        refine Plan.move_bool rfl rfl ?_
        refine Plan.move_slice rfl rfl ?_
        obtain ⟨hc136, hR⟩ := hR
        refine Plan.idxLVS (D := D3) (j := 15) h124 (LO.lvf D3_flat hf124_0 0 rfl) FRef06.sl103 rfl rfl rfl hc136 ?_
        refine Plan.loadLV1 (D := D3) (X := x_118) (j := 15) h124 (0 : Int) (fun _ x => .int .i64 x) (LO.lvf D3_flat hf124_0 0 rfl) rfl rfl hc136 rfl (fun _ _ => rfl) FRef06.sc3 fun b137 r137 hs137 hr137 => ?_
        refine Plan.cmpP (a := ((x_118.getD 15 (0 : Int)) : Int)) (b := (32768 : Int)) (p := 32768 ≤ (x_118.getD 15 (0 : Int))) rfl rfl rfl rfl icmp_ge ?_
        refine Plan.pickFb rfl rfl rfl ?_
        refine Plan.nil ?_
        refine hK125 _ _ ?_; clear hK125
        by_cases hc138 : 32768 ≤ (x_118.getD 15 (0 : Int))
        ·
          replace hR := ifT hR hc138
          refine W.condT (congrArg Value.bool (decide_eq_true hc138)) ?_
          refine W.regionT [(0, true), (1, false), (2, true)] (by kernel_rfl) ?_
          refine Plan.move_slice rfl rfl ?_
          obtain ⟨x_140, hr139, hR⟩ := hR
          refine Plan.call (vs := [.slice ay0_119 x_118.length cy0_122]) rfl FRef06.call77 rfl (letheref06_folded_ok (by exact (LO.lvf D3_flat hf124_0 0 rfl)) hr139 h124) ?_
          rintro _ w146 ⟨ay0_141, py0_142, ny0_143, cy0_144, Fy0_145, rfl, h146, hf146_0⟩
          obtain rfl := hf146_0.hl
          refine ⟨_, rfl, .inl ⟨PIn.keep PIn.nil h146, ?_⟩⟩
          refine Plan.assign_slice rfl rfl ?_
          refine Plan.nil ?_
          refine blockR_norm ?_
          have h147 := St.pickT (C := [_, _, _, _]) h146 [0, 3] (by decide)
          simp only [pick, List.filterMap_cons, List.filterMap_nil, List.getElem?_cons_zero, List.getElem?_cons_succ, List.cons_append, List.nil_append] at h147
          exact iterR_norm ⟨_, hR, ⟨py0_142, 0, cy0_144 * 1, Fy0_145, true⟩, x_140.length, 0, ay0_141, cy0_144, (EnvHas.cons rfl (EnvHas.cons rfl EnvHas.nil)), h147, (LO.lvf D3_flat hf146_0 0 rfl)⟩
        ·
          replace hR := ifF hR hc138
          refine W.condF (congrArg Value.bool (decide_eq_false hc138)) ?_
          refine W.skip ?_
          refine blockR_norm ?_
          have h148 := St.pickT (C := [_, _, _]) h124 [0, 2] (by decide)
          simp only [pick, List.filterMap_cons, List.filterMap_nil, List.getElem?_cons_zero, List.getElem?_cons_succ, List.cons_append, List.nil_append] at h148
          exact iterR_norm ⟨_, hR, ⟨py0_120, 0, cy0_122 * 1, Fy0_123, true⟩, x_118.length, 0, ay0_119, cy0_122, (EnvHas.cons rfl (EnvHas.cons rfl EnvHas.nil)), h148, (LO.lvf D3_flat hf124_0 0 rfl)⟩
  ·
    rintro ev149 wl149 ⟨y_d_97, hy149, rd_97, n_d_97, id_97, ad_97, cd_97, he149, h149, hd_97⟩
    obtain ⟨ev149, rfl⟩ := he149.open
    subst hy149
    replace hR := hR098
    obtain rfl : List.length (α := Int) d_97 = n_d_97 := hd_97.hl
    refine hK4 _ _ ?_; clear hK4
    refine W.seq_k fun K150 hK150 => ?_
    refine W.regionT [(0, false)] (by kernel_rfl) ?_
    refine Plan.alloc h149 rfl FRef06.z44 PIn.nil fun b151 w151 hb151 h151 => ?_
    simp only [rngs, Nat.zero_add, Nat.reduceAdd, List.cons_append, List.nil_append] at h151
    refine Plan.nil ?_
    refine hK150 _ _ ?_; clear hK150
    refine W.seq_k fun K152 hK152 => ?_
    refine W.seq_k fun K153 hK153 => ?_
    refine W.regionT [(0, true)] (by kernel_rfl) ?_
    refine Plan.assign_int rfl rfl ?_
    refine Plan.nil ?_
    refine hK153 _ _ ?_; clear hK153
    obtain ⟨m174, hI175, hR0175⟩ := hR
    refine W.cutN (fun e w => ∃ y_m174 : Nat → Int, m174 = y_m174 ∧ EnvHas e [(2, .pointer (some ⟨b3, 0, none⟩)), (3, .pointer (some ⟨b151, 0, none⟩))] ∧ St B w0 (⟨some b151, 0, 16, fun q => .int .i64 (y_m174 q), true⟩ :: ⟨some b3, 0, 16, fun q => .int .i64 ((fun _ => (0 : Int)) q), true⟩ :: L) w) ?_ ?_
    ·
      refine W.block ?_
      refine W.iter hI175 (fun (s175 : (Nat × (Nat → Int))) e w => EnvHas e [(0, .slice ad_97 d_97.length cd_97), (2, .pointer (some ⟨b3, 0, none⟩)), (3, .pointer (some ⟨b151, 0, none⟩)), (4, VN s175.1)] ∧ St B w0 (⟨some b151, 0, 16, fun q => .int .i64 (s175.2 q), true⟩ :: rd_97 :: ⟨some b3, 0, 16, fun q => .int .i64 ((fun _ => (0 : Int)) q), true⟩ :: L) w) ⟨(EnvHas.cons rfl (EnvHas.cons rfl (EnvHas.cons rfl (EnvHas.cons rfl EnvHas.nil)))), h151⟩ ?_
      rintro ⟨i_172, m173⟩ o175 hR hx175 ev176 wl176 ⟨he176, h176⟩
      obtain ⟨ev176, rfl⟩ := he176.open
      unfold letheref06_reduced_l1 at hR
      refine W.seq_k fun K177 hK177 => ?_
      refine W.seq_k fun K178 hK178 => ?_
      refine W.regionT [(0, true), (1, true), (2, true), (3, true)] (by kernel_rfl) ?_
      refine Plan.move_int rfl rfl ?_
      refine Plan.move_slice rfl rfl ?_
      refine Plan.len FRef06.isl103 rfl rfl ?_
      refine Plan.cmpP (a := (((i_172 : Nat) : Int) : Int)) (b := (((d_97.length : Nat) : Int) : Int)) (p := i_172 < d_97.length) rfl rfl rfl rfl icmp_ltN ?_
      refine Plan.nil ?_
      refine hK178 _ _ ?_; clear hK178
      by_cases hc179 : i_172 < d_97.length
      ·
        replace hR := ifT hR hc179
        refine W.condT (congrArg Value.bool (decide_eq_true hc179)) ?_
        refine W.skip ?_
        refine hK177 _ _ ?_; clear hK177
        refine W.seq_k fun K180 hK180 => ?_
        refine W.block ?_
        refine W.regionT [(0, true), (1, true), (2, true), (3, true), (4, true), (5, true), (6, false)] (by kernel_rfl) ?_
        refine Plan.move_int rfl rfl ?_
        refine Plan.move_slice rfl rfl ?_
        refine Plan.move_int rfl rfl ?_
        obtain ⟨hc181, hR⟩ := hR
        refine Plan.idxLVS (D := D3) (j := i_172) h176 (LV.in2 (D' := [_, _, _]) D3_flat hd_97 1 rfl).choose_spec FRef06.sl103 rfl rfl rfl hc181 ?_
        refine Plan.loadLV1 (D := D3) (X := d_97) (j := i_172) h176 (0 : Int) (fun _ x => .int .i64 x) (LV.in2 (D' := [_, _, _]) D3_flat hd_97 1 rfl).choose_spec rfl rfl hc181 rfl (fun _ _ => rfl) FRef06.sc3 fun b182 r182 hs182 hr182 => ?_
        obtain ⟨hc183, hR⟩ := hR
        refine Plan.idxArr1 (j := i_172) FRef06.arr44 rfl rfl rfl hc183 ?_
        refine Plan.storeI (j := i_172) (X := (d_97.getD i_172 (0 : Int))) h176 0 rfl rfl rfl rfl (by omega) FRef06.sz3 rfl fun w184 h184 => ?_
        simp only [List.cons_append, List.nil_append, List.set_cons_zero, List.set_cons_succ] at h184
        refine Plan.nil ?_
        refine blockR_norm ?_
        refine hK180 _ _ ?_; clear hK180
        refine W.regionT [(0, true), (1, true), (2, true)] (by kernel_rfl) ?_
        refine Plan.move_int rfl rfl ?_
        obtain ⟨hc185, hR⟩ := hR
        refine Plan.addN (a := i_172) (b := 1) rfl rfl rfl (by omega) ?_
        refine Plan.assign_int rfl rfl ?_
        refine Plan.nil ?_
        exact iterR_norm ⟨_, hR, (EnvHas.cons rfl (EnvHas.cons rfl (EnvHas.cons rfl (EnvHas.cons rfl EnvHas.nil)))), h184⟩
      ·
        replace hR := ifF hR hc179
        refine W.condF (congrArg Value.bool (decide_eq_false hc179)) ?_
        refine W.exit (thenR_exit (iterR_exit (blockR_here ?_)))
        have h186 := St.pickT (C := [_, _, _]) h176 [0, 2] (by decide)
        simp only [pick, List.filterMap_cons, List.filterMap_nil, List.getElem?_cons_zero, List.getElem?_cons_succ, List.cons_append, List.nil_append] at h186
        exact ⟨m173, (hx175 _ hR).symm, (EnvHas.cons rfl (EnvHas.cons rfl EnvHas.nil)), h186⟩
    ·
      rintro ev187 wl187 ⟨y_m174, hy187, he187, h187⟩
      obtain ⟨ev187, rfl⟩ := he187.open
      subst hy187
      replace hR := hR0175
      refine hK152 _ _ ?_; clear hK152
      refine W.seq_k fun K188 hK188 => ?_
      refine W.regionT [(0, false), (1, false), (2, false)] (by kernel_rfl) ?_
      obtain ⟨x_190, hr189, hR⟩ := hR
      refine Plan.call (vs := []) rfl FRef06.call61 rfl (letheref06_prime_ok  hr189 h187) ?_
      rintro _ w191 ⟨rfl, h191⟩
      refine ⟨_, rfl, .inl ⟨PIn.keep PIn.nil h191, ?_⟩⟩
      refine Plan.alloc h191 rfl FRef06.z44 PIn.nil fun b192 w192 hb192 h192 => ?_
      simp only [rngs, Nat.zero_add, Nat.reduceAdd, List.cons_append, List.nil_append] at h192
      refine Plan.storeA (f' := fun q => .int .i64 (x_190 q)) h192 0 rfl rfl rfl rfl (fun _ _ => rfl) FRef06.sz44 rfl fun w193 h193 => ?_
      simp only [List.cons_append, List.nil_append, List.set_cons_zero, List.set_cons_succ] at h193
      refine Plan.nil ?_
      refine hK188 _ _ ?_; clear hK188
      obtain ⟨x222, hI222, hR0222⟩ := hR
      refine W.cutN (fun e w => x222 = some () ∧ EnvHas e [] ∧ St B w0 (L) w) ?_ ?_
      ·
        refine W.block ?_
        refine W.iter hI222 (fun (s222 : (Nat → Int)) e w => EnvHas e [(2, .pointer (some ⟨b3, 0, none⟩)), (3, .pointer (some ⟨b151, 0, none⟩)), (5, .pointer (some ⟨b192, 0, none⟩))] ∧ St B w0 (⟨some b192, 0, 16, fun q => .int .i64 (x_190 q), true⟩ :: ⟨some b151, 0, 16, fun q => .int .i64 (s222 q), true⟩ :: ⟨some b3, 0, 16, fun q => .int .i64 ((fun _ => (0 : Int)) q), true⟩ :: L) w) ⟨(EnvHas.cons rfl (EnvHas.cons rfl (EnvHas.cons rfl EnvHas.nil))), h193⟩ ?_
        rintro m221 o222 hR hx222 ev223 wl223 ⟨he223, h223⟩
        obtain ⟨ev223, rfl⟩ := he223.open
        unfold letheref06_reduced_l2 at hR
        refine W.block ?_
        refine W.seq_k fun K224 hK224 => ?_
        refine W.regionT [(0, true), (1, true), (2, false), (3, true)] (by kernel_rfl) ?_
        refine Plan.loadA1 h223 1 rfl rfl rfl FRef06.agg44 ?_
        refine Plan.loadA1 h223 0 rfl rfl rfl FRef06.agg44 ?_
        obtain ⟨x_226, hr225, hR⟩ := hR
        refine Plan.call (vs := [AG [(16, fun q => .int .i64 (m221 q))], AG [(16, fun q => .int .i64 (x_190 q))]]) rfl FRef06.call60 rfl (letheref06_less_ok  hr225 h223) ?_
        rintro _ w227 ⟨rfl, h227⟩
        refine ⟨_, rfl, .inr ⟨rfl, ?_⟩⟩
        refine Plan.assign_bool rfl rfl ?_
        refine Plan.nil ?_
        refine hK224 _ _ ?_; clear hK224
        refine W.seq_k fun K228 hK228 => ?_
        refine W.seq_k fun K229 hK229 => ?_
        refine W.regionT [(0, true)] (by kernel_rfl) ?_
        refine Plan.move_bool rfl rfl ?_
        refine Plan.nil ?_
        refine hK229 _ _ ?_; clear hK229
        by_cases hc230 : x_226 = true
        ·
          replace hR := ifT hR hc230
          refine W.condT (congrArg Value.bool hc230) ?_
          refine W.seq_k fun K231 hK231 => ?_
          refine W.regionT [(0, true), (1, false)] (by kernel_rfl) ?_
          refine Plan.loadA1 h227 1 rfl rfl rfl FRef06.agg44 ?_
          refine Plan.storeA (f' := fun q => .int .i64 (m221 q)) h227 2 rfl rfl rfl rfl (fun _ _ => rfl) FRef06.sz44 rfl fun w232 h232 => ?_
          simp only [List.cons_append, List.nil_append, List.set_cons_zero, List.set_cons_succ] at h232
          refine Plan.nil ?_
          refine hK231 _ _ ?_; clear hK231
          refine W.ret (thenR_ret (blockR_ret (iterR_ret (blockR_ret (thenR_ret (finR_ret ?_))))))
          have h233 := St.pickT (C := [_, _, _]) h232 [] (by decide)
          simp only [pick, List.filterMap_cons, List.filterMap_nil, List.getElem?_cons_zero, List.getElem?_cons_succ, List.cons_append, List.nil_append] at h233
          replace hR := hR.2
          subst r
          refine RetOk.mk (.agg h232 rfl (.cons 2 rfl .nil) FRef06.agg44 .nil) ?_
          exact ⟨rfl, h233⟩
        ·
          replace hR := ifF hR hc230
          refine W.condF (congrArg Value.bool (Bool.eq_false_iff.2 hc230)) ?_
          refine W.skip ?_
          refine hK228 _ _ ?_; clear hK228
          refine W.regionT [(0, true), (1, true), (2, false), (3, false)] (by kernel_rfl) ?_
          refine Plan.loadA1 h227 1 rfl rfl rfl FRef06.agg44 ?_
          refine Plan.loadA1 h227 0 rfl rfl rfl FRef06.agg44 ?_
          obtain ⟨x_235, hr234, hR⟩ := hR
          refine Plan.call (vs := [AG [(16, fun q => .int .i64 (m221 q))], AG [(16, fun q => .int .i64 (x_190 q))]]) rfl FRef06.call78 rfl (letheref06_minus_ok  hr234 h227) ?_
          rintro _ w236 ⟨rfl, h236⟩
          refine ⟨_, rfl, .inr ⟨rfl, ?_⟩⟩
          refine Plan.storeA (f' := fun q => .int .i64 (x_235 q)) h236 1 rfl rfl rfl rfl (fun _ _ => rfl) FRef06.sz44 rfl fun w237 h237 => ?_
          simp only [List.cons_append, List.nil_append, List.set_cons_zero, List.set_cons_succ] at h237
          refine Plan.nil ?_
          refine blockR_norm ?_
          exact iterR_norm ⟨_, hR, (EnvHas.cons rfl (EnvHas.cons rfl (EnvHas.cons rfl EnvHas.nil))), h237⟩
      ·
        rintro ev238 wl238 ⟨hy238, _⟩
        exact (hR0222 hy238).elim


set_option maxRecDepth 8000 in
set_option maxHeartbeats 1000000 in
theorem letheref06_From_ok {B : Nat} {w0 w : World} {L : List Rg} {b1 : Nat → BitVec 8} {r : (Nat → Int)} (hR : letheref06_From b1 r) (HST : St B w0 (L) w) :
    Calls Tryd.prog 39 #[AG [(32, fun q => VU .u8 (b1 q))]] w fun e w' => e = .returned (AG [(16, fun q => .int .i64 (r q))]) ∧ St B w0 (L) w' := by
  refine W.enter 33 Tryd.func39 rfl rfl rfl ?_
  unfold letheref06_From at hR
  refine W.seq_k fun K2 hK2 => ?_
  refine W.regionT [(0, false), (1, false)] (by kernel_rfl) ?_
  refine Plan.boxA HST rfl rfl PIn.nil fun b3 w3 hb3 h3 => ?_
  simp only [rngs, Nat.zero_add, Nat.reduceAdd, List.cons_append, List.nil_append] at h3
  refine Plan.alloc h3 rfl FRef06.z44 PIn.nil fun b4 w4 hb4 h4 => ?_
  simp only [rngs, Nat.zero_add, Nat.reduceAdd, List.cons_append, List.nil_append] at h4
  refine Plan.nil ?_
  refine hK2 _ _ ?_; clear hK2
  refine W.seq_k fun K5 hK5 => ?_
  refine W.regionT [(0, true)] (by kernel_rfl) ?_
  refine Plan.assign_slice rfl rfl ?_
  refine Plan.nil ?_
  refine hK5 _ _ ?_; clear hK5
  refine W.seq_k fun K6 hK6 => ?_
  refine W.seq_k fun K7 hK7 => ?_
  refine W.regionT [(0, true)] (by kernel_rfl) ?_
  refine Plan.assign_int rfl rfl ?_
  refine Plan.nil ?_
  refine hK7 _ _ ?_; clear hK7
  have h35 : St B w0 (⟨none, 0, 0 * 1, fun _ => undef, true⟩ :: _) _ := h4.nilE (fun _ => undef)
  obtain ⟨d_33, hI34, hR034⟩ := hR
  refine W.cutN (fun e w => ∃ y_d_33 : List Int, d_33 = y_d_33 ∧ ∃ n_d_33 : Nat, ∃ ad_33 : Option Addr, ∃ pd_33 : Option Nat, ∃ cd_33 : Nat, ∃ Fd_33 : Nat → Value, EnvHas e [(2, .pointer (some ⟨b4, 0, none⟩)), (3, .slice ad_33 n_d_33 cd_33)] ∧ St B w0 (⟨pd_33, 0, cd_33 * 1, Fd_33, true⟩ :: ⟨some b4, 0, 16, fun q => .int .i64 ((fun _ => (0 : Int)) q), true⟩ :: L) w ∧ LO D3 [] ad_33 pd_33 n_d_33 cd_33 Fd_33 y_d_33) ?_ ?_
  ·
    refine W.block ?_
    refine W.iter hI34 (fun (s34 : ((List Int) × Nat)) e w => ∃ n_d_30 : Nat, ∃ ad_30 : Option Addr, ∃ pd_30 : Option Nat, ∃ cd_30 : Nat, ∃ Fd_30 : Nat → Value, EnvHas e [(1, .pointer (some ⟨b3, 0, none⟩)), (2, .pointer (some ⟨b4, 0, none⟩)), (3, .slice ad_30 n_d_30 cd_30), (4, VN s34.2)] ∧ St B w0 (⟨pd_30, 0, cd_30 * 1, Fd_30, true⟩ :: ⟨some b4, 0, 16, fun q => .int .i64 ((fun _ => (0 : Int)) q), true⟩ :: ⟨some b3, 0, 32, fun q => VU .u8 (b1 q), true⟩ :: L) w ∧ LO D3 [] ad_30 pd_30 n_d_30 cd_30 Fd_30 s34.1) ⟨0, none, none, 0, (fun _ => undef), (EnvHas.cons rfl (EnvHas.cons rfl (EnvHas.cons rfl (EnvHas.cons rfl EnvHas.nil)))), h35, LO.nil⟩ ?_
    rintro ⟨d_30, i_32⟩ o34 hR hx34 ev36 wl36 ⟨n_d_30, ad_30, pd_30, cd_30, Fd_30, he36, h36, hd_30⟩
    try dsimp only at he36 h36 hd_30
    obtain rfl : List.length (α := Int) d_30 = n_d_30 := hd_30.hl
    obtain ⟨ev36, rfl⟩ := he36.open
    unfold letheref06_From_l0 at hR
    refine W.seq_k fun K37 hK37 => ?_
    refine W.seq_k fun K38 hK38 => ?_
    refine W.regionT [(0, true), (1, true)] (by kernel_rfl) ?_
    refine Plan.move_int rfl rfl ?_
    refine Plan.cmpP (a := (((i_32 : Nat) : Int) : Int)) (b := (16 : Int)) (p := i_32 < 16) rfl rfl rfl rfl icmp_ltN ?_
    refine Plan.nil ?_
    refine hK38 _ _ ?_; clear hK38
    by_cases hc39 : i_32 < 16
    ·
      replace hR := ifT hR hc39
      refine W.condT (congrArg Value.bool (decide_eq_true hc39)) ?_
      refine W.skip ?_
      refine hK37 _ _ ?_; clear hK37
      refine W.seq_k fun K40 hK40 => ?_
      refine W.block ?_
      refine W.regionD FRef06.mixed [(0, true), (1, true), (2, true), (3, true), (4, true), (5, true), (6, true), (7, true), (8, true), (9, true), (10, true), (11, true), (12, true), (13, true), (14, false), (15, false), (16, true)] (by kernel_rfl) ?_
      have h41 := h36.drew
      refine Plan.move_slice rfl rfl ?_
      refine Plan.move_int rfl rfl ?_
      refine Plan.mulN (a := 2) (b := i_32) rfl rfl rfl (by omega) ?_
      refine Plan.idxArr1 (j := (2 * i_32)) FRef06.arr22 rfl rfl rfl (by omega) ?_
      refine Plan.load1 (j := (2 * i_32)) h41 2 rfl rfl rfl (by omega) FRef06.sc5 ?_
      refine Plan.convN (a := (b1 (2 * i_32)).toNat) FRef06.u3 FRef06.some5 rfl rfl (Nat.lt_of_lt_of_le (b1 (2 * i_32)).isLt (by decide)) ?_
      refine Plan.move_int rfl rfl ?_
      refine Plan.mulN (a := 2) (b := i_32) rfl rfl rfl (by omega) ?_
      refine Plan.addN (a := (2 * i_32)) (b := 1) rfl rfl rfl (by omega) ?_
      refine Plan.idxArr1 (j := ((2 * i_32) + 1)) FRef06.arr22 rfl rfl rfl (by omega) ?_
      refine Plan.load1 (j := ((2 * i_32) + 1)) h41 2 rfl rfl rfl (by omega) FRef06.sc5 ?_
      refine Plan.convN (a := (b1 ((2 * i_32) + 1)).toNat) FRef06.u3 FRef06.some5 rfl rfl (Nat.lt_of_lt_of_le (b1 ((2 * i_32) + 1)).isLt (by decide)) ?_
      refine Plan.mulN (a := 256) (b := (b1 ((2 * i_32) + 1)).toNat) rfl rfl rfl (by omega) ?_
      refine Plan.addN (a := (b1 (2 * i_32)).toNat) (b := (256 * ((b1 ((2 * i_32) + 1)).toNat))) rfl rfl rfl (by omega) ?_
      refine Plan.buildLO (D := D3) (sz := 1) h41 [((), (((((b1 (2 * i_32)).toNat) + (256 * ((b1 ((2 * i_32) + 1)).toNat))) : Nat) : Int))] FRef06.slu103 FRef06.sz3 FRef06.zv3 (by decide) (by decide) rfl rfl rfl rfl (fun _ _ => trivial) (EffO.keep (PIn.cons 2 rfl (PIn.cons 2 rfl PIn.nil))) fun b43 w43 F43 hb43 ho43 h43 => ?_
      replace ho43 : LO D3 [] (some ⟨b43, 0, none⟩) (some b43) ([(((((b1 (2 * i_32)).toNat) + (256 * ((b1 ((2 * i_32) + 1)).toNat))) : Nat) : Int)] : List Int).length 1 F43 ([(((((b1 (2 * i_32)).toNat) + (256 * ((b1 ((2 * i_32) + 1)).toNat))) : Nat) : Int)] : List Int) := ho43.re (fun _ _ h => h)
      obtain ⟨hc45, hR⟩ := hR
      refine Plan.appendLO (D := D3) (X := d_30) (Y := ([(((((b1 (2 * i_32)).toNat) + (256 * ((b1 ((2 * i_32) + 1)).toNat))) : Nat) : Int)] : List Int)) (sz := 1) h43 () (0 : Int) 1 hd_30 rfl FRef06.el103 rfl FRef06.slu103 rfl rfl rfl rfl (LO.lvf D3_flat ho43 0 rfl) (fun _ _ h => h) hc45.1 hc45.2 (fun _ => EffO.keep (PIn.cons 3 rfl (PIn.cons 3 rfl PIn.nil))) fun a44 pb44 cap44 F44 w44 ho44 h44 => ?_
      simp only [List.cons_append, List.nil_append, List.set_cons_zero, List.set_cons_succ] at h44
      replace ho44 : LO D3 [] a44 pb44 (d_30 ++ ([(((((b1 (2 * i_32)).toNat) + (256 * ((b1 ((2 * i_32) + 1)).toNat))) : Nat) : Int)] : List Int)).length cap44 F44 (d_30 ++ ([(((((b1 (2 * i_32)).toNat) + (256 * ((b1 ((2 * i_32) + 1)).toNat))) : Nat) : Int)] : List Int)) := ho44.re (fun _ _ h => h)
      refine Plan.assign_slice rfl rfl ?_
      refine Plan.nil ?_
      refine blockR_norm ?_
      refine hK40 _ _ ?_; clear hK40
      refine W.regionT [(0, true), (1, true), (2, true)] (by kernel_rfl) ?_
      refine Plan.move_int rfl rfl ?_
      refine Plan.addN (a := i_32) (b := 1) rfl rfl rfl (by omega) ?_
      refine Plan.assign_int rfl rfl ?_
      refine Plan.nil ?_
      have h46 := St.pickT (C := [_, _, _, _]) h44 [1, 2, 3] (by decide)
      simp only [pick, List.filterMap_cons, List.filterMap_nil, List.getElem?_cons_zero, List.getElem?_cons_succ, List.cons_append, List.nil_append] at h46
      exact iterR_norm ⟨_, hR, (d_30 ++ ([(((((b1 (2 * i_32)).toNat) + (256 * ((b1 ((2 * i_32) + 1)).toNat))) : Nat) : Int)] : List Int)).length, a44, pb44, cap44, F44, (EnvHas.cons rfl (EnvHas.cons rfl (EnvHas.cons rfl (EnvHas.cons rfl EnvHas.nil)))), h46, ho44⟩
    ·
      replace hR := ifF hR hc39
      refine W.condF (congrArg Value.bool (decide_eq_false hc39)) ?_
      refine W.exit (thenR_exit (iterR_exit (blockR_here ?_)))
      have h47 := St.pickT (C := [_, _, _]) h36 [0, 1] (by decide)
      simp only [pick, List.filterMap_cons, List.filterMap_nil, List.getElem?_cons_zero, List.getElem?_cons_succ, List.cons_append, List.nil_append] at h47
      exact ⟨d_30, (hx34 _ hR).symm, d_30.length, ad_30, pd_30, cd_30, Fd_30, (EnvHas.cons rfl (EnvHas.cons rfl EnvHas.nil)), h47, hd_30⟩
  ·
    rintro ev48 wl48 ⟨y_d_33, hy48, n_d_33, ad_33, pd_33, cd_33, Fd_33, he48, h48, hd_33⟩
    obtain ⟨ev48, rfl⟩ := he48.open
    subst hy48
    replace hR := hR034
    obtain rfl : List.length (α := Int) d_33 = n_d_33 := hd_33.hl
    refine hK6 _ _ ?_; clear hK6
    refine W.seq_k fun K49 hK49 => ?_
    refine W.regionT [(0, true), (1, true), (2, true), (3, true), (4, true), (5, true), (6, false)] (by kernel_rfl) ?_
    refine Plan.move_slice rfl rfl ?_
    refine Plan.move_slice rfl rfl ?_
    obtain ⟨hc50, hR⟩ := hR
    refine Plan.idxLVS (D := D3) (j := 15) h48 (LO.lvf D3_flat hd_33 0 rfl) FRef06.sl103 rfl rfl rfl hc50 ?_
    refine Plan.loadLV1 (D := D3) (X := d_33) (j := 15) h48 (0 : Int) (fun _ x => .int .i64 x) (LO.lvf D3_flat hd_33 0 rfl) rfl rfl hc50 rfl (fun _ _ => rfl) FRef06.sc3 fun b51 r51 hs51 hr51 => ?_
    have hb52 := tmod_bd (d_33.getD 15 (0 : Int)) (c := 32768) (by decide)
    refine Plan.remI (a := (d_33.getD 15 (0 : Int))) (b := 32768) rfl rfl rfl (by omega) ?_
    obtain ⟨hc53, hR⟩ := hR
    refine Plan.idxLVS (D := D3) (j := 15) h48 (LO.lvf D3_flat hd_33 0 rfl) FRef06.sl103 rfl rfl rfl hc53 ?_
    refine Plan.storeLO1 (D := D3) (j := 15) h48 () ((d_33.getD 15 (0 : Int)).tmod 32768) (.int .i64 ((d_33.getD 15 (0 : Int)).tmod 32768)) 0 hd_33 trivial rfl rfl rfl rfl rfl hc53 rfl FRef06.sz3 rfl fun w54 F54 ho54 h54 => ?_
    simp only [List.cons_append, List.nil_append, List.set_cons_zero, List.set_cons_succ] at h54
    have e54 : (d_33.set 15 ((d_33.getD 15 (0 : Int)).tmod 32768)).length = d_33.length := List.length_set
    refine Plan.nil ?_
    refine hK49 _ _ ?_; clear hK49
    refine W.seq_k fun K55 hK55 => ?_
    refine W.regionT [(0, true), (1, false), (2, false)] (by kernel_rfl) ?_
    refine Plan.move_slice rfl rfl ?_
    obtain ⟨x_57, hr56, hR⟩ := hR
    refine Plan.call (vs := [.slice ad_33 d_33.length cd_33]) rfl FRef06.call59 rfl (letheref06_reduced_ok (by exact (LO.lvf D3_flat (show LO D3 [] _ _ d_33.length _ _ _ from ho54) 0 rfl)) hr56 h54) ?_
    rintro _ w58 ⟨rfl, h58⟩
    refine ⟨_, rfl, .inl ⟨PIn.keep PIn.nil h58, ?_⟩⟩
    refine Plan.storeA (f' := fun q => .int .i64 (x_57 q)) h58 1 rfl rfl rfl rfl (fun _ _ => rfl) FRef06.sz44 rfl fun w59 h59 => ?_
    simp only [List.cons_append, List.nil_append, List.set_cons_zero, List.set_cons_succ] at h59
    refine Plan.nil ?_
    refine hK55 _ _ ?_; clear hK55
    refine W.ret (finR_ret ?_)
    have h60 := St.pickT (C := [_, _]) h59 [] (by decide)
    simp only [pick, List.filterMap_cons, List.filterMap_nil, List.getElem?_cons_zero, List.getElem?_cons_succ, List.cons_append, List.nil_append] at h60
    subst r
    refine RetOk.mk (.agg h59 rfl (.cons 1 rfl .nil) FRef06.agg44 .nil) ?_
    exact ⟨rfl, h60⟩


set_option maxRecDepth 8000 in
set_option maxHeartbeats 1000000 in
theorem letheref06_Fits_ok {B : Nat} {w0 w : World} {L : List Rg} {b1 : Nat → BitVec 8} {r : Bool} (hR : letheref06_Fits b1 r) (HST : St B w0 (L) w) :
    Calls Tryd.prog 41 #[AG [(32, fun q => VU .u8 (b1 q))]] w fun e w' => e = .returned (.bool r) ∧ St B w0 (L) w' := by
  refine W.enter 27 Tryd.func41 rfl rfl rfl ?_
  unfold letheref06_Fits at hR
  refine W.seq_k fun K2 hK2 => ?_
  refine W.regionT [(0, false), (1, true)] (by kernel_rfl) ?_
  refine Plan.boxA HST rfl rfl PIn.nil fun b3 w3 hb3 h3 => ?_
  simp only [rngs, Nat.zero_add, Nat.reduceAdd, List.cons_append, List.nil_append] at h3
  refine Plan.assign_bool rfl rfl ?_
  refine Plan.nil ?_
  refine hK2 _ _ ?_; clear hK2
  refine W.seq_k fun K4 hK4 => ?_
  refine W.regionT [(0, false)] (by kernel_rfl) ?_
  refine Plan.alloc h3 rfl FRef06.z44 PIn.nil fun b5 w5 hb5 h5 => ?_
  simp only [rngs, Nat.zero_add, Nat.reduceAdd, List.cons_append, List.nil_append] at h5
  refine Plan.nil ?_
  refine hK4 _ _ ?_; clear hK4
  refine W.seq_k fun K6 hK6 => ?_
  refine W.seq_k fun K7 hK7 => ?_
  refine W.regionT [(0, true)] (by kernel_rfl) ?_
  refine Plan.assign_int rfl rfl ?_
  refine Plan.nil ?_
  refine hK7 _ _ ?_; clear hK7
  obtain ⟨m24, hI25, hR025⟩ := hR
  refine W.cutN (fun e w => ∃ y_m24 : Nat → Int, m24 = y_m24 ∧ EnvHas e [(3, .pointer (some ⟨b5, 0, none⟩))] ∧ St B w0 (⟨some b5, 0, 16, fun q => .int .i64 (y_m24 q), true⟩ :: L) w) ?_ ?_
  ·
    refine W.block ?_
    refine W.iter hI25 (fun (s25 : (Nat × (Nat → Int))) e w => EnvHas e [(1, .pointer (some ⟨b3, 0, none⟩)), (3, .pointer (some ⟨b5, 0, none⟩)), (4, VN s25.1)] ∧ St B w0 (⟨some b5, 0, 16, fun q => .int .i64 (s25.2 q), true⟩ :: ⟨some b3, 0, 32, fun q => VU .u8 (b1 q), true⟩ :: L) w) ⟨(EnvHas.cons rfl (EnvHas.cons rfl (EnvHas.cons rfl EnvHas.nil))), h5⟩ ?_
    rintro ⟨i_22, m23⟩ o25 hR hx25 ev26 wl26 ⟨he26, h26⟩
    obtain ⟨ev26, rfl⟩ := he26.open
    unfold letheref06_Fits_l0 at hR
    refine W.seq_k fun K27 hK27 => ?_
    refine W.seq_k fun K28 hK28 => ?_
    refine W.regionT [(0, true), (1, true)] (by kernel_rfl) ?_
    refine Plan.move_int rfl rfl ?_
    refine Plan.cmpP (a := (((i_22 : Nat) : Int) : Int)) (b := (16 : Int)) (p := i_22 < 16) rfl rfl rfl rfl icmp_ltN ?_
    refine Plan.nil ?_
    refine hK28 _ _ ?_; clear hK28
    by_cases hc29 : i_22 < 16
    ·
      replace hR := ifT hR hc29
      refine W.condT (congrArg Value.bool (decide_eq_true hc29)) ?_
      refine W.skip ?_
      refine hK27 _ _ ?_; clear hK27
      refine W.seq_k fun K30 hK30 => ?_
      refine W.block ?_
      refine W.regionD FRef06.mixed [(0, true), (1, true), (2, true), (3, true), (4, true), (5, true), (6, true), (7, true), (8, true), (9, true), (10, true), (11, true), (12, true), (13, true), (14, true), (15, false)] (by kernel_rfl) ?_
      have h31 := h26.drew
      refine Plan.move_int rfl rfl ?_
      refine Plan.move_int rfl rfl ?_
      refine Plan.mulN (a := 2) (b := i_22) rfl rfl rfl (by omega) ?_
      refine Plan.idxArr1 (j := (2 * i_22)) FRef06.arr22 rfl rfl rfl (by omega) ?_
      refine Plan.load1 (j := (2 * i_22)) h31 1 rfl rfl rfl (by omega) FRef06.sc5 ?_
      refine Plan.convN (a := (b1 (2 * i_22)).toNat) FRef06.u3 FRef06.some5 rfl rfl (Nat.lt_of_lt_of_le (b1 (2 * i_22)).isLt (by decide)) ?_
      refine Plan.move_int rfl rfl ?_
      refine Plan.mulN (a := 2) (b := i_22) rfl rfl rfl (by omega) ?_
      refine Plan.addN (a := (2 * i_22)) (b := 1) rfl rfl rfl (by omega) ?_
      refine Plan.idxArr1 (j := ((2 * i_22) + 1)) FRef06.arr22 rfl rfl rfl (by omega) ?_
      refine Plan.load1 (j := ((2 * i_22) + 1)) h31 1 rfl rfl rfl (by omega) FRef06.sc5 ?_
      refine Plan.convN (a := (b1 ((2 * i_22) + 1)).toNat) FRef06.u3 FRef06.some5 rfl rfl (Nat.lt_of_lt_of_le (b1 ((2 * i_22) + 1)).isLt (by decide)) ?_
      refine Plan.mulN (a := 256) (b := (b1 ((2 * i_22) + 1)).toNat) rfl rfl rfl (by omega) ?_
      refine Plan.addN (a := (b1 (2 * i_22)).toNat) (b := (256 * ((b1 ((2 * i_22) + 1)).toNat))) rfl rfl rfl (by omega) ?_
      refine Plan.idxArr1 (j := i_22) FRef06.arr44 rfl rfl rfl (by omega) ?_
      refine Plan.storeI (j := i_22) (X := (((((b1 (2 * i_22)).toNat) + (256 * ((b1 ((2 * i_22) + 1)).toNat))) : Nat) : Int)) h31 0 rfl rfl rfl rfl (by omega) FRef06.sz3 rfl fun w32 h32 => ?_
      simp only [List.cons_append, List.nil_append, List.set_cons_zero, List.set_cons_succ] at h32
      refine Plan.nil ?_
      refine blockR_norm ?_
      refine hK30 _ _ ?_; clear hK30
      refine W.regionT [(0, true), (1, true), (2, true)] (by kernel_rfl) ?_
      refine Plan.move_int rfl rfl ?_
      refine Plan.addN (a := i_22) (b := 1) rfl rfl rfl (by omega) ?_
      refine Plan.assign_int rfl rfl ?_
      refine Plan.nil ?_
      exact iterR_norm ⟨_, hR, (EnvHas.cons rfl (EnvHas.cons rfl (EnvHas.cons rfl EnvHas.nil))), h32⟩
    ·
      replace hR := ifF hR hc29
      refine W.condF (congrArg Value.bool (decide_eq_false hc29)) ?_
      refine W.exit (thenR_exit (iterR_exit (blockR_here ?_)))
      have h33 := St.pickT (C := [_, _]) h26 [0] (by decide)
      simp only [pick, List.filterMap_cons, List.filterMap_nil, List.getElem?_cons_zero, List.getElem?_cons_succ, List.cons_append, List.nil_append] at h33
      exact ⟨m23, (hx25 _ hR).symm, (EnvHas.cons rfl EnvHas.nil), h33⟩
  ·
    rintro ev34 wl34 ⟨y_m24, hy34, he34, h34⟩
    obtain ⟨ev34, rfl⟩ := he34.open
    subst hy34
    replace hR := hR025
    refine hK6 _ _ ?_; clear hK6
    refine W.seq_k fun K35 hK35 => ?_
    refine W.regionD FRef06.mixed [(0, true), (1, false), (2, false), (3, true)] (by kernel_rfl) ?_
    have h36 := h34.drew
    refine Plan.loadA1 h36 0 rfl rfl rfl FRef06.agg44 ?_
    obtain ⟨x_38, hr37, hR⟩ := hR
    refine Plan.call (vs := []) rfl FRef06.call61 rfl (letheref06_prime_ok  hr37 h36) ?_
    rintro _ w39 ⟨rfl, h39⟩
    refine ⟨_, rfl, .inl ⟨PIn.keep (PIn.cons 0 rfl PIn.nil) h39, ?_⟩⟩
    obtain ⟨x_41, hr40, hR⟩ := hR
    refine Plan.call (vs := [AG [(16, fun q => .int .i64 (m24 q))], AG [(16, fun q => .int .i64 (x_38 q))]]) rfl FRef06.call60 rfl (letheref06_less_ok  hr40 h39) ?_
    rintro _ w42 ⟨rfl, h42⟩
    refine ⟨_, rfl, .inr ⟨rfl, ?_⟩⟩
    refine Plan.assign_bool rfl rfl ?_
    refine Plan.nil ?_
    refine hK35 _ _ ?_; clear hK35
    refine W.ret (finR_ret ?_)
    have h43 := St.pickT (C := [_]) h42 [] (by decide)
    simp only [pick, List.filterMap_cons, List.filterMap_nil, List.getElem?_cons_zero, List.getElem?_cons_succ, List.cons_append, List.nil_append] at h43
    subst r
    refine RetOk.mk (.tmp_bool rfl .nil) ?_
    exact ⟨rfl, h43⟩


set_option maxRecDepth 8000 in
set_option maxHeartbeats 1000000 in
theorem letheref06_Int_ok {B : Nat} {w0 w : World} {L : List Rg} {n_1 : BitVec 64} {r : (Nat → Int)} (hR : letheref06_Int n_1 r) (HST : St B w0 (L) w) :
    Calls Tryd.prog 42 #[VU .u64 n_1] w fun e w' => e = .returned (AG [(16, fun q => .int .i64 (r q))]) ∧ St B w0 (L) w' := by
  refine W.enter 17 Tryd.func42 rfl rfl rfl ?_
  unfold letheref06_Int at hR
  refine W.seq_k fun K2 hK2 => ?_
  refine W.regionT [(0, false)] (by kernel_rfl) ?_
  refine Plan.alloc HST rfl FRef06.z44 PIn.nil fun b3 w3 hb3 h3 => ?_
  simp only [rngs, Nat.zero_add, Nat.reduceAdd, List.cons_append, List.nil_append] at h3
  refine Plan.nil ?_
  refine hK2 _ _ ?_; clear hK2
  refine W.seq_k fun K4 hK4 => ?_
  refine W.regionT [(0, false)] (by kernel_rfl) ?_
  refine Plan.alloc h3 rfl FRef06.z44 PIn.nil fun b5 w5 hb5 h5 => ?_
  simp only [rngs, Nat.zero_add, Nat.reduceAdd, List.cons_append, List.nil_append] at h5
  refine Plan.nil ?_
  refine hK4 _ _ ?_; clear hK4
  refine W.seq_k fun K6 hK6 => ?_
  refine W.seq_k fun K7 hK7 => ?_
  refine W.regionT [(0, true)] (by kernel_rfl) ?_
  refine Plan.assign_int rfl rfl ?_
  refine Plan.nil ?_
  refine hK7 _ _ ?_; clear hK7
  obtain ⟨m28, hI29, hR029⟩ := hR
  refine W.cutN (fun e w => ∃ y_m28 : Nat → Int, m28 = y_m28 ∧ EnvHas e [(2, .pointer (some ⟨b3, 0, none⟩)), (3, .pointer (some ⟨b5, 0, none⟩))] ∧ St B w0 (⟨some b5, 0, 16, fun q => .int .i64 (y_m28 q), true⟩ :: ⟨some b3, 0, 16, fun q => .int .i64 ((fun _ => (0 : Int)) q), true⟩ :: L) w) ?_ ?_
  ·
    refine W.block ?_
    refine W.iter hI29 (fun (s29 : ((BitVec 64) × Nat × (Nat → Int))) e w => EnvHas e [(0, VU .u64 s29.1), (2, .pointer (some ⟨b3, 0, none⟩)), (3, .pointer (some ⟨b5, 0, none⟩)), (4, VN s29.2.1)] ∧ St B w0 (⟨some b5, 0, 16, fun q => .int .i64 (s29.2.2 q), true⟩ :: ⟨some b3, 0, 16, fun q => .int .i64 ((fun _ => (0 : Int)) q), true⟩ :: L) w) ⟨(EnvHas.cons rfl (EnvHas.cons rfl (EnvHas.cons rfl (EnvHas.cons rfl EnvHas.nil)))), h5⟩ ?_
    rintro ⟨n_25, i_26, m27⟩ o29 hR hx29 ev30 wl30 ⟨he30, h30⟩
    obtain ⟨ev30, rfl⟩ := he30.open
    unfold letheref06_Int_l0 at hR
    refine W.seq_k fun K31 hK31 => ?_
    refine W.seq_k fun K32 hK32 => ?_
    refine W.regionT [(0, true), (1, true)] (by kernel_rfl) ?_
    refine Plan.move_int rfl rfl ?_
    refine Plan.cmpP (a := (((i_26 : Nat) : Int) : Int)) (b := (4 : Int)) (p := i_26 < 4) rfl rfl rfl rfl icmp_ltN ?_
    refine Plan.nil ?_
    refine hK32 _ _ ?_; clear hK32
    by_cases hc33 : i_26 < 4
    ·
      replace hR := ifT hR hc33
      refine W.condT (congrArg Value.bool (decide_eq_true hc33)) ?_
      refine W.skip ?_
      refine hK31 _ _ ?_; clear hK31
      refine W.seq_k fun K34 hK34 => ?_
      refine W.block ?_
      refine W.seq_k fun K35 hK35 => ?_
      refine W.regionT [(0, true), (1, true), (2, true), (3, true), (4, true), (5, false)] (by kernel_rfl) ?_
      refine Plan.move_int rfl rfl ?_
      refine Plan.move_int rfl rfl ?_
      refine Plan.remU .u64 (X := n_25) (Y := 65536#64) rfl rfl rfl (by decide) ?_
      obtain ⟨hc36, hR⟩ := hR
      refine Plan.convN (a := (n_25 % (65536#64)).toNat) FRef06.u3 FRef06.some24 rfl rfl hc36 ?_
      refine Plan.idxArr1 (j := i_26) FRef06.arr44 rfl rfl rfl (by omega) ?_
      refine Plan.storeI (j := i_26) (X := (((n_25 % (65536#64)).toNat : Nat) : Int)) h30 0 rfl rfl rfl rfl (by omega) FRef06.sz3 rfl fun w37 h37 => ?_
      simp only [List.cons_append, List.nil_append, List.set_cons_zero, List.set_cons_succ] at h37
      refine Plan.nil ?_
      refine hK35 _ _ ?_; clear hK35
      refine W.regionT [(0, true), (1, true), (2, true)] (by kernel_rfl) ?_
      refine Plan.move_int rfl rfl ?_
      refine Plan.quoU .u64 (X := n_25) (Y := 65536#64) rfl rfl rfl (by decide) ?_
      refine Plan.assign_int rfl rfl ?_
      refine Plan.nil ?_
      refine blockR_norm ?_
      refine hK34 _ _ ?_; clear hK34
      refine W.regionT [(0, true), (1, true), (2, true)] (by kernel_rfl) ?_
      refine Plan.move_int rfl rfl ?_
      refine Plan.addN (a := i_26) (b := 1) rfl rfl rfl (by omega) ?_
      refine Plan.assign_int rfl rfl ?_
      refine Plan.nil ?_
      exact iterR_norm ⟨_, hR, (EnvHas.cons rfl (EnvHas.cons rfl (EnvHas.cons rfl (EnvHas.cons rfl EnvHas.nil)))), h37⟩
    ·
      replace hR := ifF hR hc33
      refine W.condF (congrArg Value.bool (decide_eq_false hc33)) ?_
      refine W.exit (thenR_exit (iterR_exit (blockR_here ?_)))
      exact ⟨m27, (hx29 _ hR).symm, (EnvHas.cons rfl (EnvHas.cons rfl EnvHas.nil)), h30⟩
  ·
    rintro ev38 wl38 ⟨y_m28, hy38, he38, h38⟩
    obtain ⟨ev38, rfl⟩ := he38.open
    subst hy38
    replace hR := hR029
    refine hK6 _ _ ?_; clear hK6
    refine W.seq_k fun K39 hK39 => ?_
    refine W.regionT [(0, true), (1, false)] (by kernel_rfl) ?_
    refine Plan.loadA1 h38 0 rfl rfl rfl FRef06.agg44 ?_
    refine Plan.storeA (f' := fun q => .int .i64 (m28 q)) h38 1 rfl rfl rfl rfl (fun _ _ => rfl) FRef06.sz44 rfl fun w40 h40 => ?_
    simp only [List.cons_append, List.nil_append, List.set_cons_zero, List.set_cons_succ] at h40
    refine Plan.nil ?_
    refine hK39 _ _ ?_; clear hK39
    refine W.ret (finR_ret ?_)
    have h41 := St.pickT (C := [_, _]) h40 [] (by decide)
    simp only [pick, List.filterMap_cons, List.filterMap_nil, List.getElem?_cons_zero, List.getElem?_cons_succ, List.cons_append, List.nil_append] at h41
    subst r
    refine RetOk.mk (.agg h40 rfl (.cons 1 rfl .nil) FRef06.agg44 .nil) ?_
    exact ⟨rfl, h41⟩


set_option maxRecDepth 8000 in
set_option maxHeartbeats 1000000 in
theorem letheref06_Add_ok {B : Nat} {w0 w : World} {L : List Rg} {a1 : Nat → Int} {b2 : Nat → Int} {r : (Nat → Int)} (hR : letheref06_Add a1 b2 r) (HST : St B w0 (L) w) :
    Calls Tryd.prog 43 #[AG [(16, fun q => .int .i64 (a1 q))], AG [(16, fun q => .int .i64 (b2 q))]] w fun e w' => e = .returned (AG [(16, fun q => .int .i64 (r q))]) ∧ St B w0 (L) w' := by
  refine W.enter 23 Tryd.func43 rfl rfl rfl ?_
  unfold letheref06_Add at hR
  refine W.seq_k fun K3 hK3 => ?_
  refine W.regionT [(0, false), (1, false), (2, false)] (by kernel_rfl) ?_
  refine Plan.boxA HST rfl rfl PIn.nil fun b4 w4 hb4 h4 => ?_
  simp only [rngs, Nat.zero_add, Nat.reduceAdd, List.cons_append, List.nil_append] at h4
  refine Plan.boxA h4 rfl rfl PIn.nil fun b5 w5 hb5 h5 => ?_
  simp only [rngs, Nat.zero_add, Nat.reduceAdd, List.cons_append, List.nil_append] at h5
  refine Plan.alloc h5 rfl FRef06.z44 PIn.nil fun b6 w6 hb6 h6 => ?_
  simp only [rngs, Nat.zero_add, Nat.reduceAdd, List.cons_append, List.nil_append] at h6
  refine Plan.nil ?_
  refine hK3 _ _ ?_; clear hK3
  refine W.seq_k fun K7 hK7 => ?_
  refine W.regionT [(0, true)] (by kernel_rfl) ?_
  refine Plan.assign_slice rfl rfl ?_
  refine Plan.nil ?_
  refine hK7 _ _ ?_; clear hK7
  refine W.seq_k fun K8 hK8 => ?_
  refine W.seq_k fun K9 hK9 => ?_
  refine W.regionT [(0, true)] (by kernel_rfl) ?_
  refine Plan.assign_int rfl rfl ?_
  refine Plan.nil ?_
  refine hK9 _ _ ?_; clear hK9
  have h39 : St B w0 (⟨none, 0, 0 * 1, fun _ => undef, true⟩ :: _) _ := h6.nilE (fun _ => undef)
  obtain ⟨d_37, hI38, hR038⟩ := hR
  refine W.cutN (fun e w => ∃ y_d_37 : List Int, d_37 = y_d_37 ∧ ∃ n_d_37 : Nat, ∃ ad_37 : Option Addr, ∃ pd_37 : Option Nat, ∃ cd_37 : Nat, ∃ Fd_37 : Nat → Value, EnvHas e [(4, .pointer (some ⟨b6, 0, none⟩)), (5, .slice ad_37 n_d_37 cd_37)] ∧ St B w0 (⟨pd_37, 0, cd_37 * 1, Fd_37, true⟩ :: ⟨some b6, 0, 16, fun q => .int .i64 ((fun _ => (0 : Int)) q), true⟩ :: L) w ∧ LO D3 [] ad_37 pd_37 n_d_37 cd_37 Fd_37 y_d_37) ?_ ?_
  ·
    refine W.block ?_
    refine W.iter hI38 (fun (s38 : ((List Int) × Nat)) e w => ∃ n_d_34 : Nat, ∃ ad_34 : Option Addr, ∃ pd_34 : Option Nat, ∃ cd_34 : Nat, ∃ Fd_34 : Nat → Value, EnvHas e [(2, .pointer (some ⟨b4, 0, none⟩)), (3, .pointer (some ⟨b5, 0, none⟩)), (4, .pointer (some ⟨b6, 0, none⟩)), (5, .slice ad_34 n_d_34 cd_34), (6, VN s38.2)] ∧ St B w0 (⟨pd_34, 0, cd_34 * 1, Fd_34, true⟩ :: ⟨some b6, 0, 16, fun q => .int .i64 ((fun _ => (0 : Int)) q), true⟩ :: ⟨some b5, 0, 16, fun q => .int .i64 (b2 q), true⟩ :: ⟨some b4, 0, 16, fun q => .int .i64 (a1 q), true⟩ :: L) w ∧ LO D3 [] ad_34 pd_34 n_d_34 cd_34 Fd_34 s38.1) ⟨0, none, none, 0, (fun _ => undef), (EnvHas.cons rfl (EnvHas.cons rfl (EnvHas.cons rfl (EnvHas.cons rfl (EnvHas.cons rfl EnvHas.nil))))), h39, LO.nil⟩ ?_
    rintro ⟨d_34, i_36⟩ o38 hR hx38 ev40 wl40 ⟨n_d_34, ad_34, pd_34, cd_34, Fd_34, he40, h40, hd_34⟩
    try dsimp only at he40 h40 hd_34
    obtain rfl : List.length (α := Int) d_34 = n_d_34 := hd_34.hl
    obtain ⟨ev40, rfl⟩ := he40.open
    unfold letheref06_Add_l0 at hR
    refine W.seq_k fun K41 hK41 => ?_
    refine W.seq_k fun K42 hK42 => ?_
    refine W.regionT [(0, true), (1, true)] (by kernel_rfl) ?_
    refine Plan.move_int rfl rfl ?_
    refine Plan.cmpP (a := (((i_36 : Nat) : Int) : Int)) (b := (16 : Int)) (p := i_36 < 16) rfl rfl rfl rfl icmp_ltN ?_
    refine Plan.nil ?_
    refine hK42 _ _ ?_; clear hK42
    by_cases hc43 : i_36 < 16
    ·
      replace hR := ifT hR hc43
      refine W.condT (congrArg Value.bool (decide_eq_true hc43)) ?_
      refine W.skip ?_
      refine hK41 _ _ ?_; clear hK41
      refine W.seq_k fun K44 hK44 => ?_
      refine W.block ?_
      refine W.regionD FRef06.mixed [(0, true), (1, true), (2, true), (3, true), (4, true), (5, true), (6, true), (7, true), (8, false), (9, false), (10, true)] (by kernel_rfl) ?_
      have h45 := h40.drew
      refine Plan.move_slice rfl rfl ?_
      refine Plan.move_int rfl rfl ?_
      refine Plan.idxArr1 (j := i_36) FRef06.arr44 rfl rfl rfl (by omega) ?_
      refine Plan.load1 (j := i_36) h45 3 rfl rfl rfl (by omega) FRef06.sc3 ?_
      refine Plan.move_int rfl rfl ?_
      refine Plan.idxArr1 (j := i_36) FRef06.arr44 rfl rfl rfl (by omega) ?_
      refine Plan.load1 (j := i_36) h45 2 rfl rfl rfl (by omega) FRef06.sc3 ?_
      obtain ⟨hc46, hR⟩ := hR
      refine Plan.addI (a := (a1 i_36)) (b := (b2 i_36)) rfl rfl rfl (by omega) ?_
      refine Plan.buildLO (D := D3) (sz := 1) h45 [((), ((a1 i_36) + (b2 i_36)))] FRef06.slu103 FRef06.sz3 FRef06.zv3 (by decide) (by decide) rfl rfl rfl rfl (fun _ _ => trivial) (EffO.keep (PIn.cons 2 rfl (PIn.cons 3 rfl PIn.nil))) fun b48 w48 F48 hb48 ho48 h48 => ?_
      replace ho48 : LO D3 [] (some ⟨b48, 0, none⟩) (some b48) ([((a1 i_36) + (b2 i_36))] : List Int).length 1 F48 ([((a1 i_36) + (b2 i_36))] : List Int) := ho48.re (fun _ _ h => h)
      obtain ⟨hc50, hR⟩ := hR
      refine Plan.appendLO (D := D3) (X := d_34) (Y := ([((a1 i_36) + (b2 i_36))] : List Int)) (sz := 1) h48 () (0 : Int) 1 hd_34 rfl FRef06.el103 rfl FRef06.slu103 rfl rfl rfl rfl (LO.lvf D3_flat ho48 0 rfl) (fun _ _ h => h) hc50.1 hc50.2 (fun _ => EffO.keep (PIn.cons 3 rfl (PIn.cons 4 rfl PIn.nil))) fun a49 pb49 cap49 F49 w49 ho49 h49 => ?_
      simp only [List.cons_append, List.nil_append, List.set_cons_zero, List.set_cons_succ] at h49
      replace ho49 : LO D3 [] a49 pb49 (d_34 ++ ([((a1 i_36) + (b2 i_36))] : List Int)).length cap49 F49 (d_34 ++ ([((a1 i_36) + (b2 i_36))] : List Int)) := ho49.re (fun _ _ h => h)
      refine Plan.assign_slice rfl rfl ?_
      refine Plan.nil ?_
      refine blockR_norm ?_
      refine hK44 _ _ ?_; clear hK44
      refine W.regionT [(0, true), (1, true), (2, true)] (by kernel_rfl) ?_
      refine Plan.move_int rfl rfl ?_
      refine Plan.addN (a := i_36) (b := 1) rfl rfl rfl (by omega) ?_
      refine Plan.assign_int rfl rfl ?_
      refine Plan.nil ?_
      have h51 := St.pickT (C := [_, _, _, _, _]) h49 [1, 2, 3, 4] (by decide)
      simp only [pick, List.filterMap_cons, List.filterMap_nil, List.getElem?_cons_zero, List.getElem?_cons_succ, List.cons_append, List.nil_append] at h51
      exact iterR_norm ⟨_, hR, (d_34 ++ ([((a1 i_36) + (b2 i_36))] : List Int)).length, a49, pb49, cap49, F49, (EnvHas.cons rfl (EnvHas.cons rfl (EnvHas.cons rfl (EnvHas.cons rfl (EnvHas.cons rfl EnvHas.nil))))), h51, ho49⟩
    ·
      replace hR := ifF hR hc43
      refine W.condF (congrArg Value.bool (decide_eq_false hc43)) ?_
      refine W.exit (thenR_exit (iterR_exit (blockR_here ?_)))
      have h52 := St.pickT (C := [_, _, _, _]) h40 [0, 1] (by decide)
      simp only [pick, List.filterMap_cons, List.filterMap_nil, List.getElem?_cons_zero, List.getElem?_cons_succ, List.cons_append, List.nil_append] at h52
      exact ⟨d_34, (hx38 _ hR).symm, d_34.length, ad_34, pd_34, cd_34, Fd_34, (EnvHas.cons rfl (EnvHas.cons rfl EnvHas.nil)), h52, hd_34⟩
  ·
    rintro ev53 wl53 ⟨y_d_37, hy53, n_d_37, ad_37, pd_37, cd_37, Fd_37, he53, h53, hd_37⟩
    obtain ⟨ev53, rfl⟩ := he53.open
    subst hy53
    replace hR := hR038
    obtain rfl : List.length (α := Int) d_37 = n_d_37 := hd_37.hl
    refine hK8 _ _ ?_; clear hK8
    refine W.seq_k fun K54 hK54 => ?_
    refine W.regionT [(0, true), (1, false), (2, false)] (by kernel_rfl) ?_
    refine Plan.move_slice rfl rfl ?_
    obtain ⟨x_56, hr55, hR⟩ := hR
    refine Plan.call (vs := [.slice ad_37 d_37.length cd_37]) rfl FRef06.call59 rfl (letheref06_reduced_ok (by exact (LO.lvf D3_flat hd_37 0 rfl)) hr55 h53) ?_
    rintro _ w57 ⟨rfl, h57⟩
    refine ⟨_, rfl, .inl ⟨PIn.keep PIn.nil h57, ?_⟩⟩
    refine Plan.storeA (f' := fun q => .int .i64 (x_56 q)) h57 1 rfl rfl rfl rfl (fun _ _ => rfl) FRef06.sz44 rfl fun w58 h58 => ?_
    simp only [List.cons_append, List.nil_append, List.set_cons_zero, List.set_cons_succ] at h58
    refine Plan.nil ?_
    refine hK54 _ _ ?_; clear hK54
    refine W.ret (finR_ret ?_)
    have h59 := St.pickT (C := [_, _]) h58 [] (by decide)
    simp only [pick, List.filterMap_cons, List.filterMap_nil, List.getElem?_cons_zero, List.getElem?_cons_succ, List.cons_append, List.nil_append] at h59
    subst r
    refine RetOk.mk (.agg h58 rfl (.cons 1 rfl .nil) FRef06.agg44 .nil) ?_
    exact ⟨rfl, h59⟩


set_option maxRecDepth 8000 in
set_option maxHeartbeats 1000000 in
theorem letheref06_Neg_ok {B : Nat} {w0 w : World} {L : List Rg} {a1 : Nat → Int} {r : (Nat → Int)} (hR : letheref06_Neg a1 r) (HST : St B w0 (L) w) :
    Calls Tryd.prog 62 #[AG [(16, fun q => .int .i64 (a1 q))]] w fun e w' => e = .returned (AG [(16, fun q => .int .i64 (r q))]) ∧ St B w0 (L) w' := by
  refine W.enter 9 Tryd.func62 rfl rfl rfl ?_
  unfold letheref06_Neg at hR
  refine W.seq_k fun K2 hK2 => ?_
  refine W.regionT [(0, false), (1, false)] (by kernel_rfl) ?_
  refine Plan.boxA HST rfl rfl PIn.nil fun b3 w3 hb3 h3 => ?_
  simp only [rngs, Nat.zero_add, Nat.reduceAdd, List.cons_append, List.nil_append] at h3
  refine Plan.alloc h3 rfl FRef06.z44 PIn.nil fun b4 w4 hb4 h4 => ?_
  simp only [rngs, Nat.zero_add, Nat.reduceAdd, List.cons_append, List.nil_append] at h4
  refine Plan.nil ?_
  refine hK2 _ _ ?_; clear hK2
  refine W.seq_k fun K5 hK5 => ?_
  refine W.regionX (B := B) (w0 := w0) (L := L) FRef06.mixed [⟨3, 3, 44, [(16, fun q => .int .i64 ((fun _ => (0 : Int)) q))]⟩] [(1, true)] [[(0, false)], [(2, false)]] [(4, false)] (by kernel_rfl) (by kernel_rfl) (.cons FRef06.z44 .nil) ?_
  have h6 := h4.drew
  refine Plan.loadA1 h6 1 rfl rfl rfl FRef06.agg44 ?_
  refine Plan.nil ⟨[_, _], h6, (PIn.cons 1 rfl PIn.nil), ?_⟩
  refine PX.step fun C7 z7 w7 h7 => ?_
  simp only [List.cons_append, List.nil_append] at h7
  obtain ⟨x_9, hr8, hR⟩ := hR
  refine Plan.call (vs := []) rfl FRef06.call61 rfl (letheref06_prime_ok  hr8 h7) ?_
  rintro _ w10 ⟨rfl, h10⟩
  refine ⟨_, rfl, .inl ⟨PIn.keep (PIn.cons 1 rfl PIn.nil) h10, ?_⟩⟩
  refine Plan.nil ⟨[_, _], h10, (PIn.cons 1 rfl PIn.nil), ?_⟩
  refine PX.step fun C11 z11 w11 h11 => ?_
  simp only [List.cons_append, List.nil_append] at h11
  obtain ⟨x_13, hr12, hR⟩ := hR
  refine Plan.call (vs := [AG [(16, fun q => .int .i64 (x_9 q))], AG [(16, fun q => .int .i64 (a1 q))]]) rfl FRef06.call78 rfl (letheref06_minus_ok  hr12 h11) ?_
  rintro _ w14 ⟨rfl, h14⟩
  refine ⟨_, rfl, .inr ⟨rfl, ?_⟩⟩
  refine Plan.nil ⟨[_, _], h14, PIn.nil, ?_⟩
  refine PX.done (KE.step fun b15_3 => (KE.fin fun w15 h15 => ?_))
  simp only [rngs, Nat.zero_add, Nat.reduceAdd, List.cons_append, List.nil_append] at h15
  refine Plan.storeA (f' := fun q => .int .i64 (x_13 q)) h15 2 rfl rfl rfl rfl (fun _ _ => rfl) FRef06.sz44 rfl fun w16 h16 => ?_
  simp only [List.cons_append, List.nil_append, List.set_cons_zero, List.set_cons_succ] at h16
  refine Plan.nil ?_
  refine hK5 _ _ ?_; clear hK5
  refine W.seq_k fun K17 hK17 => ?_
  refine W.regionT [(0, true), (1, false), (2, false)] (by kernel_rfl) ?_
  refine Plan.slArrO (lo := 0) (hi := 16) (m := 16) (c := 16) (o' := 0) FRef06.arr44 rfl rfl rfl rfl (by omega) (by omega) (by omega) (by omega) ?_
  obtain ⟨x_19, hr18, hR⟩ := hR
  refine Plan.call (vs := [.slice (some ⟨b15_3, 0, none⟩) 16 16]) rfl FRef06.call59 rfl (letheref06_reduced_ok (by exact (D3_arr (n := 16) (cc := 16) 2 rfl (by omega) (by omega))) hr18 h16) ?_
  rintro _ w20 ⟨rfl, h20⟩
  refine ⟨_, rfl, .inl ⟨PIn.keep PIn.nil h20, ?_⟩⟩
  refine Plan.storeA (f' := fun q => .int .i64 (x_19 q)) h20 0 rfl rfl rfl rfl (fun _ _ => rfl) FRef06.sz44 rfl fun w21 h21 => ?_
  simp only [List.cons_append, List.nil_append, List.set_cons_zero, List.set_cons_succ] at h21
  refine Plan.nil ?_
  refine hK17 _ _ ?_; clear hK17
  refine W.ret (finR_ret ?_)
  have h22 := St.pickT (C := [_, _, _]) h21 [] (by decide)
  simp only [pick, List.filterMap_cons, List.filterMap_nil, List.getElem?_cons_zero, List.getElem?_cons_succ, List.cons_append, List.nil_append] at h22
  subst r
  refine RetOk.mk (.agg h21 rfl (.cons 0 rfl .nil) FRef06.agg44 .nil) ?_
  exact ⟨rfl, h22⟩


set_option maxRecDepth 8000 in
set_option maxHeartbeats 1000000 in
theorem letheref06_Sub_ok {B : Nat} {w0 w : World} {L : List Rg} {a1 : Nat → Int} {b2 : Nat → Int} {r : (Nat → Int)} (hR : letheref06_Sub a1 b2 r) (HST : St B w0 (L) w) :
    Calls Tryd.prog 44 #[AG [(16, fun q => .int .i64 (a1 q))], AG [(16, fun q => .int .i64 (b2 q))]] w fun e w' => e = .returned (AG [(16, fun q => .int .i64 (r q))]) ∧ St B w0 (L) w' := by
  refine W.enter 9 Tryd.func44 rfl rfl rfl ?_
  unfold letheref06_Sub at hR
  refine W.seq_k fun K3 hK3 => ?_
  refine W.regionT [(0, false), (1, false), (2, false)] (by kernel_rfl) ?_
  refine Plan.boxA HST rfl rfl PIn.nil fun b4 w4 hb4 h4 => ?_
  simp only [rngs, Nat.zero_add, Nat.reduceAdd, List.cons_append, List.nil_append] at h4
  refine Plan.boxA h4 rfl rfl PIn.nil fun b5 w5 hb5 h5 => ?_
  simp only [rngs, Nat.zero_add, Nat.reduceAdd, List.cons_append, List.nil_append] at h5
  refine Plan.alloc h5 rfl FRef06.z44 PIn.nil fun b6 w6 hb6 h6 => ?_
  simp only [rngs, Nat.zero_add, Nat.reduceAdd, List.cons_append, List.nil_append] at h6
  refine Plan.nil ?_
  refine hK3 _ _ ?_; clear hK3
  refine W.seq_k fun K7 hK7 => ?_
  refine W.regionD FRef06.mixed [(0, true), (1, true), (2, false), (3, false), (4, false)] (by kernel_rfl) ?_
  have h8 := h6.drew
  refine Plan.loadA1 h8 2 rfl rfl rfl FRef06.agg44 ?_
  refine Plan.loadA1 h8 1 rfl rfl rfl FRef06.agg44 ?_
  obtain ⟨x_10, hr9, hR⟩ := hR
  refine Plan.call (vs := [AG [(16, fun q => .int .i64 (b2 q))]]) rfl FRef06.call62 rfl (letheref06_Neg_ok  hr9 h8) ?_
  rintro _ w11 ⟨rfl, h11⟩
  refine ⟨_, rfl, .inl ⟨PIn.keep (PIn.cons 1 rfl (PIn.cons 2 rfl PIn.nil)) h11, ?_⟩⟩
  obtain ⟨x_13, hr12, hR⟩ := hR
  refine Plan.call (vs := [AG [(16, fun q => .int .i64 (a1 q))], AG [(16, fun q => .int .i64 (x_10 q))]]) rfl FRef06.call43 rfl (letheref06_Add_ok  hr12 h11) ?_
  rintro _ w14 ⟨rfl, h14⟩
  refine ⟨_, rfl, .inl ⟨PIn.keep (PIn.cons 1 rfl (PIn.cons 2 rfl PIn.nil)) h14, ?_⟩⟩
  refine Plan.storeA (f' := fun q => .int .i64 (x_13 q)) h14 0 rfl rfl rfl rfl (fun _ _ => rfl) FRef06.sz44 rfl fun w15 h15 => ?_
  simp only [List.cons_append, List.nil_append, List.set_cons_zero, List.set_cons_succ] at h15
  refine Plan.nil ?_
  refine hK7 _ _ ?_; clear hK7
  refine W.ret (finR_ret ?_)
  have h16 := St.pickT (C := [_, _, _]) h15 [] (by decide)
  simp only [pick, List.filterMap_cons, List.filterMap_nil, List.getElem?_cons_zero, List.getElem?_cons_succ, List.cons_append, List.nil_append] at h16
  subst r
  refine RetOk.mk (.agg h15 rfl (.cons 0 rfl .nil) FRef06.agg44 .nil) ?_
  exact ⟨rfl, h16⟩


set_option maxRecDepth 8000 in
set_option maxHeartbeats 1000000 in
theorem letheref06_Mul_ok {B : Nat} {w0 w : World} {L : List Rg} {a1 : Nat → Int} {b2 : Nat → Int} {r : (Nat → Int)} (hR : letheref06_Mul a1 b2 r) (HST : St B w0 (L) w) :
    Calls Tryd.prog 45 #[AG [(16, fun q => .int .i64 (a1 q))], AG [(16, fun q => .int .i64 (b2 q))]] w fun e w' => e = .returned (AG [(16, fun q => .int .i64 (r q))]) ∧ St B w0 (L) w' := by
  refine W.enter 38 Tryd.func45 rfl rfl rfl ?_
  unfold letheref06_Mul at hR
  refine W.seq_k fun K3 hK3 => ?_
  refine W.regionT [(0, false), (1, false), (2, false)] (by kernel_rfl) ?_
  refine Plan.boxA HST rfl rfl PIn.nil fun b4 w4 hb4 h4 => ?_
  simp only [rngs, Nat.zero_add, Nat.reduceAdd, List.cons_append, List.nil_append] at h4
  refine Plan.boxA h4 rfl rfl PIn.nil fun b5 w5 hb5 h5 => ?_
  simp only [rngs, Nat.zero_add, Nat.reduceAdd, List.cons_append, List.nil_append] at h5
  refine Plan.alloc h5 rfl FRef06.z44 PIn.nil fun b6 w6 hb6 h6 => ?_
  simp only [rngs, Nat.zero_add, Nat.reduceAdd, List.cons_append, List.nil_append] at h6
  refine Plan.nil ?_
  refine hK3 _ _ ?_; clear hK3
  refine W.seq_k fun K7 hK7 => ?_
  refine W.regionT [(0, false), (1, true)] (by kernel_rfl) ?_
  refine Plan.makeLO (D := D3) (len := 32) (c := 32) (sz := 1) h6 () (0 : Int) FRef06.el103 rfl rfl trivial rfl rfl rfl (by omega) (by omega) (by omega) (fun _ => EffO.keep PIn.nil) fun b9 w9 F9 hb9 ho9 h9 => ?_
  replace ho9 : LO D3 [] (some ⟨b9, 0, none⟩) (some b9) (List.replicate 32 (0 : Int)).length 32 F9 (List.replicate 32 (0 : Int)) := ho9.re (fun _ _ h => h)
  refine Plan.assign_slice rfl rfl ?_
  refine Plan.nil ?_
  refine hK7 _ _ ?_; clear hK7
  refine W.seq_k fun K10 hK10 => ?_
  refine W.seq_k fun K11 hK11 => ?_
  refine W.regionT [(0, true)] (by kernel_rfl) ?_
  refine Plan.assign_int rfl rfl ?_
  refine Plan.nil ?_
  refine hK11 _ _ ?_; clear hK11
  obtain ⟨d_108, hI109, hR0109⟩ := hR
  refine W.cutN (fun e w => ∃ y_d_108 : List Int, d_108 = y_d_108 ∧ ∃ n_d_108 : Nat, ∃ ad_108 : Option Addr, ∃ pd_108 : Option Nat, ∃ cd_108 : Nat, ∃ Fd_108 : Nat → Value, EnvHas e [(4, .pointer (some ⟨b6, 0, none⟩)), (5, .slice ad_108 n_d_108 cd_108)] ∧ St B w0 (⟨pd_108, 0, cd_108 * 1, Fd_108, true⟩ :: ⟨some b6, 0, 16, fun q => .int .i64 ((fun _ => (0 : Int)) q), true⟩ :: L) w ∧ LO D3 [] ad_108 pd_108 n_d_108 cd_108 Fd_108 y_d_108) ?_ ?_
  ·
    refine W.block ?_
    refine W.iter hI109 (fun (s109 : ((List Int) × Nat)) e w => ∃ n_d_106 : Nat, ∃ ad_106 : Option Addr, ∃ pd_106 : Option Nat, ∃ cd_106 : Nat, ∃ Fd_106 : Nat → Value, EnvHas e [(2, .pointer (some ⟨b4, 0, none⟩)), (3, .pointer (some ⟨b5, 0, none⟩)), (4, .pointer (some ⟨b6, 0, none⟩)), (5, .slice ad_106 n_d_106 cd_106), (6, VN s109.2)] ∧ St B w0 (⟨pd_106, 0, cd_106 * 1, Fd_106, true⟩ :: ⟨some b6, 0, 16, fun q => .int .i64 ((fun _ => (0 : Int)) q), true⟩ :: ⟨some b5, 0, 16, fun q => .int .i64 (b2 q), true⟩ :: ⟨some b4, 0, 16, fun q => .int .i64 (a1 q), true⟩ :: L) w ∧ LO D3 [] ad_106 pd_106 n_d_106 cd_106 Fd_106 s109.1) ⟨(List.replicate 32 (0 : Int)).length, some ⟨b9, 0, none⟩, some b9, 32, F9, (EnvHas.cons rfl (EnvHas.cons rfl (EnvHas.cons rfl (EnvHas.cons rfl (EnvHas.cons rfl EnvHas.nil))))), h9, ho9⟩ ?_
    rintro ⟨d_106, i_107⟩ o109 hR hx109 ev110 wl110 ⟨n_d_106, ad_106, pd_106, cd_106, Fd_106, he110, h110, hd_106⟩
    try dsimp only at he110 h110 hd_106
    obtain rfl : List.length (α := Int) d_106 = n_d_106 := hd_106.hl
    obtain ⟨ev110, rfl⟩ := he110.open
    unfold letheref06_Mul_l0 at hR
    refine W.seq_k fun K111 hK111 => ?_
    refine W.seq_k fun K112 hK112 => ?_
    refine W.regionT [(0, true), (1, true)] (by kernel_rfl) ?_
    refine Plan.move_int rfl rfl ?_
    refine Plan.cmpP (a := (((i_107 : Nat) : Int) : Int)) (b := (16 : Int)) (p := i_107 < 16) rfl rfl rfl rfl icmp_ltN ?_
    refine Plan.nil ?_
    refine hK112 _ _ ?_; clear hK112
    by_cases hc113 : i_107 < 16
    ·
      replace hR := ifT hR hc113
      refine W.condT (congrArg Value.bool (decide_eq_true hc113)) ?_
      refine W.skip ?_
      refine hK111 _ _ ?_; clear hK111
      refine W.seq_k fun K114 hK114 => ?_
      refine W.block ?_
      refine W.seq_k fun K115 hK115 => ?_
      refine W.regionT [(0, true)] (by kernel_rfl) ?_
      refine Plan.assign_int rfl rfl ?_
      refine Plan.nil ?_
      refine hK115 _ _ ?_; clear hK115
      obtain ⟨d_142, hI143, hR0143⟩ := hR
      refine W.cutN (fun e w => ∃ y_d_142 : List Int, d_142 = y_d_142 ∧ ∃ n_d_142 : Nat, ∃ ad_142 : Option Addr, ∃ pd_142 : Option Nat, ∃ cd_142 : Nat, ∃ Fd_142 : Nat → Value, EnvHas e [(2, .pointer (some ⟨b4, 0, none⟩)), (3, .pointer (some ⟨b5, 0, none⟩)), (4, .pointer (some ⟨b6, 0, none⟩)), (5, .slice ad_142 n_d_142 cd_142), (6, VN i_107)] ∧ St B w0 (⟨pd_142, 0, cd_142 * 1, Fd_142, true⟩ :: ⟨some b6, 0, 16, fun q => .int .i64 ((fun _ => (0 : Int)) q), true⟩ :: ⟨some b5, 0, 16, fun q => .int .i64 (b2 q), true⟩ :: ⟨some b4, 0, 16, fun q => .int .i64 (a1 q), true⟩ :: L) w ∧ LO D3 [] ad_142 pd_142 n_d_142 cd_142 Fd_142 y_d_142) ?_ ?_
      ·
        refine W.block ?_
        refine W.iter hI143 (fun (s143 : ((List Int) × Nat)) e w => ∃ n_d_140 : Nat, ∃ ad_140 : Option Addr, ∃ pd_140 : Option Nat, ∃ cd_140 : Nat, ∃ Fd_140 : Nat → Value, EnvHas e [(2, .pointer (some ⟨b4, 0, none⟩)), (3, .pointer (some ⟨b5, 0, none⟩)), (4, .pointer (some ⟨b6, 0, none⟩)), (5, .slice ad_140 n_d_140 cd_140), (6, VN i_107), (7, VN s143.2)] ∧ St B w0 (⟨pd_140, 0, cd_140 * 1, Fd_140, true⟩ :: ⟨some b6, 0, 16, fun q => .int .i64 ((fun _ => (0 : Int)) q), true⟩ :: ⟨some b5, 0, 16, fun q => .int .i64 (b2 q), true⟩ :: ⟨some b4, 0, 16, fun q => .int .i64 (a1 q), true⟩ :: L) w ∧ LO D3 [] ad_140 pd_140 n_d_140 cd_140 Fd_140 s143.1) ⟨d_106.length, ad_106, pd_106, cd_106, Fd_106, (EnvHas.cons rfl (EnvHas.cons rfl (EnvHas.cons rfl (EnvHas.cons rfl (EnvHas.cons rfl (EnvHas.cons rfl EnvHas.nil)))))), h110, hd_106⟩ ?_
        rintro ⟨d_140, k141⟩ o143 hR hx143 ev144 wl144 ⟨n_d_140, ad_140, pd_140, cd_140, Fd_140, he144, h144, hd_140⟩
        try dsimp only at he144 h144 hd_140
        obtain rfl : List.length (α := Int) d_140 = n_d_140 := hd_140.hl
        obtain ⟨ev144, rfl⟩ := he144.open
        unfold letheref06_Mul_l1 at hR
        refine W.seq_k fun K145 hK145 => ?_
        refine W.seq_k fun K146 hK146 => ?_
        refine W.regionT [(0, true), (1, true)] (by kernel_rfl) ?_
        refine Plan.move_int rfl rfl ?_
        refine Plan.cmpP (a := (((k141 : Nat) : Int) : Int)) (b := (16 : Int)) (p := k141 < 16) rfl rfl rfl rfl icmp_ltN ?_
        refine Plan.nil ?_
        refine hK146 _ _ ?_; clear hK146
        by_cases hc147 : k141 < 16
        ·
          replace hR := ifT hR hc147
          refine W.condT (congrArg Value.bool (decide_eq_true hc147)) ?_
          refine W.skip ?_
          refine hK145 _ _ ?_; clear hK145
          refine W.seq_k fun K148 hK148 => ?_
          refine W.block ?_
          refine W.regionD FRef06.mixed [(0, true), (1, true), (2, true), (3, true), (4, true), (5, true), (6, true), (7, true), (8, true), (9, true), (10, true), (11, true), (12, true), (13, true), (14, true), (15, true), (16, true), (17, true), (18, true), (19, false)] (by kernel_rfl) ?_
          have h149 := h144.drew
          refine Plan.move_slice rfl rfl ?_
          refine Plan.move_int rfl rfl ?_
          refine Plan.move_int rfl rfl ?_
          refine Plan.addN (a := i_107) (b := k141) rfl rfl rfl (by omega) ?_
          refine Plan.move_slice rfl rfl ?_
          refine Plan.move_int rfl rfl ?_
          refine Plan.move_int rfl rfl ?_
          refine Plan.addN (a := i_107) (b := k141) rfl rfl rfl (by omega) ?_
          obtain ⟨hc150, hR⟩ := hR
          refine Plan.idxLVS (D := D3) (j := (i_107 + k141)) h149 (LO.lvf D3_flat hd_140 0 rfl) FRef06.sl103 rfl rfl rfl hc150 ?_
          refine Plan.loadLV1 (D := D3) (X := d_140) (j := (i_107 + k141)) h149 (0 : Int) (fun _ x => .int .i64 x) (LO.lvf D3_flat hd_140 0 rfl) rfl rfl hc150 rfl (fun _ _ => rfl) FRef06.sc3 fun b151 r151 hs151 hr151 => ?_
          refine Plan.move_int rfl rfl ?_
          refine Plan.idxArr1 (j := i_107) FRef06.arr44 rfl rfl rfl (by omega) ?_
          refine Plan.load1 (j := i_107) h149 3 rfl rfl rfl (by omega) FRef06.sc3 ?_
          refine Plan.move_int rfl rfl ?_
          refine Plan.idxArr1 (j := k141) FRef06.arr44 rfl rfl rfl (by omega) ?_
          refine Plan.load1 (j := k141) h149 2 rfl rfl rfl (by omega) FRef06.sc3 ?_
          obtain ⟨hc152, hR⟩ := hR
          refine Plan.mulI (a := (a1 i_107)) (b := (b2 k141)) rfl rfl rfl (by omega) ?_
          obtain ⟨hc153, hR⟩ := hR
          refine Plan.addI (a := (d_140.getD (i_107 + k141) (0 : Int))) (b := ((a1 i_107) * (b2 k141))) rfl rfl rfl (by omega) ?_
          obtain ⟨hc154, hR⟩ := hR
          refine Plan.idxLVS (D := D3) (j := (i_107 + k141)) h149 (LO.lvf D3_flat hd_140 0 rfl) FRef06.sl103 rfl rfl rfl hc154 ?_
          refine Plan.storeLO1 (D := D3) (j := (i_107 + k141)) h149 () ((d_140.getD (i_107 + k141) (0 : Int)) + ((a1 i_107) * (b2 k141))) (.int .i64 ((d_140.getD (i_107 + k141) (0 : Int)) + ((a1 i_107) * (b2 k141)))) 0 hd_140 trivial rfl rfl rfl rfl rfl hc154 rfl FRef06.sz3 rfl fun w155 F155 ho155 h155 => ?_
          simp only [List.cons_append, List.nil_append, List.set_cons_zero, List.set_cons_succ] at h155
          have e155 : (d_140.set (i_107 + k141) ((d_140.getD (i_107 + k141) (0 : Int)) + ((a1 i_107) * (b2 k141)))).length = d_140.length := List.length_set
          refine Plan.nil ?_
          refine blockR_norm ?_
          refine hK148 _ _ ?_; clear hK148
          refine W.regionT [(0, true), (1, true), (2, true)] (by kernel_rfl) ?_
          refine Plan.move_int rfl rfl ?_
          refine Plan.addN (a := k141) (b := 1) rfl rfl rfl (by omega) ?_
          refine Plan.assign_int rfl rfl ?_
          refine Plan.nil ?_
          exact iterR_norm ⟨_, hR, d_140.length, ad_140, pd_140, cd_140, F155, (EnvHas.cons rfl (EnvHas.cons rfl (EnvHas.cons rfl (EnvHas.cons rfl (EnvHas.cons rfl (EnvHas.cons rfl EnvHas.nil)))))), h155, (show LO D3 [] _ _ d_140.length _ _ _ from ho155)⟩
        ·
          replace hR := ifF hR hc147
          refine W.condF (congrArg Value.bool (decide_eq_false hc147)) ?_
          refine W.exit (thenR_exit (iterR_exit (blockR_here ?_)))
          exact ⟨d_140, (hx143 _ hR).symm, d_140.length, ad_140, pd_140, cd_140, Fd_140, (EnvHas.cons rfl (EnvHas.cons rfl (EnvHas.cons rfl (EnvHas.cons rfl (EnvHas.cons rfl EnvHas.nil))))), h144, hd_140⟩
      ·
        rintro ev156 wl156 ⟨y_d_142, hy156, n_d_142, ad_142, pd_142, cd_142, Fd_142, he156, h156, hd_142⟩
        obtain ⟨ev156, rfl⟩ := he156.open
        subst hy156
        replace hR := hR0143
        obtain rfl : List.length (α := Int) d_142 = n_d_142 := hd_142.hl
        refine blockR_norm ?_
        refine hK114 _ _ ?_; clear hK114
        refine W.regionT [(0, true), (1, true), (2, true)] (by kernel_rfl) ?_
        refine Plan.move_int rfl rfl ?_
        refine Plan.addN (a := i_107) (b := 1) rfl rfl rfl (by omega) ?_
        refine Plan.assign_int rfl rfl ?_
        refine Plan.nil ?_
        exact iterR_norm ⟨_, hR, d_142.length, ad_142, pd_142, cd_142, Fd_142, (EnvHas.cons rfl (EnvHas.cons rfl (EnvHas.cons rfl (EnvHas.cons rfl (EnvHas.cons rfl EnvHas.nil))))), h156, hd_142⟩
    ·
      replace hR := ifF hR hc113
      refine W.condF (congrArg Value.bool (decide_eq_false hc113)) ?_
      refine W.exit (thenR_exit (iterR_exit (blockR_here ?_)))
      have h157 := St.pickT (C := [_, _, _, _]) h110 [0, 1] (by decide)
      simp only [pick, List.filterMap_cons, List.filterMap_nil, List.getElem?_cons_zero, List.getElem?_cons_succ, List.cons_append, List.nil_append] at h157
      exact ⟨d_106, (hx109 _ hR).symm, d_106.length, ad_106, pd_106, cd_106, Fd_106, (EnvHas.cons rfl (EnvHas.cons rfl EnvHas.nil)), h157, hd_106⟩
  ·
    rintro ev158 wl158 ⟨y_d_108, hy158, n_d_108, ad_108, pd_108, cd_108, Fd_108, he158, h158, hd_108⟩
    obtain ⟨ev158, rfl⟩ := he158.open
    subst hy158
    replace hR := hR0109
    obtain rfl : List.length (α := Int) d_108 = n_d_108 := hd_108.hl
    refine hK10 _ _ ?_; clear hK10
    refine W.seq_k fun K159 hK159 => ?_
    refine W.regionT [(0, true), (1, false), (2, false)] (by kernel_rfl) ?_
    refine Plan.move_slice rfl rfl ?_
    obtain ⟨x_161, hr160, hR⟩ := hR
    refine Plan.call (vs := [.slice ad_108 d_108.length cd_108]) rfl FRef06.call59 rfl (letheref06_reduced_ok (by exact (LO.lvf D3_flat hd_108 0 rfl)) hr160 h158) ?_
    rintro _ w162 ⟨rfl, h162⟩
    refine ⟨_, rfl, .inl ⟨PIn.keep PIn.nil h162, ?_⟩⟩
    refine Plan.storeA (f' := fun q => .int .i64 (x_161 q)) h162 1 rfl rfl rfl rfl (fun _ _ => rfl) FRef06.sz44 rfl fun w163 h163 => ?_
    simp only [List.cons_append, List.nil_append, List.set_cons_zero, List.set_cons_succ] at h163
    refine Plan.nil ?_
    refine hK159 _ _ ?_; clear hK159
    refine W.ret (finR_ret ?_)
    have h164 := St.pickT (C := [_, _]) h163 [] (by decide)
    simp only [pick, List.filterMap_cons, List.filterMap_nil, List.getElem?_cons_zero, List.getElem?_cons_succ, List.cons_append, List.nil_append] at h164
    subst r
    refine RetOk.mk (.agg h163 rfl (.cons 1 rfl .nil) FRef06.agg44 .nil) ?_
    exact ⟨rfl, h164⟩


set_option maxRecDepth 8000 in
set_option maxHeartbeats 1000000 in
theorem letheref06_Pow_ok {B : Nat} {w0 w : World} {L : List Rg} {a1 : Nat → Int} {n_2 : Nat → BitVec 8} {r : (Nat → Int)} (hR : letheref06_Pow a1 n_2 r) (HST : St B w0 (L) w) :
    Calls Tryd.prog 63 #[AG [(16, fun q => .int .i64 (a1 q))], AG [(32, fun q => VU .u8 (n_2 q))]] w fun e w' => e = .returned (AG [(16, fun q => .int .i64 (r q))]) ∧ St B w0 (L) w' := by
  refine W.enter 28 Tryd.func63 rfl rfl rfl ?_
  unfold letheref06_Pow at hR
  refine W.seq_k fun K3 hK3 => ?_
  refine W.regionT [(0, false), (1, false), (2, false)] (by kernel_rfl) ?_
  refine Plan.boxA HST rfl rfl PIn.nil fun b4 w4 hb4 h4 => ?_
  simp only [rngs, Nat.zero_add, Nat.reduceAdd, List.cons_append, List.nil_append] at h4
  refine Plan.boxA h4 rfl rfl PIn.nil fun b5 w5 hb5 h5 => ?_
  simp only [rngs, Nat.zero_add, Nat.reduceAdd, List.cons_append, List.nil_append] at h5
  refine Plan.alloc h5 rfl FRef06.z44 PIn.nil fun b6 w6 hb6 h6 => ?_
  simp only [rngs, Nat.zero_add, Nat.reduceAdd, List.cons_append, List.nil_append] at h6
  refine Plan.nil ?_
  refine hK3 _ _ ?_; clear hK3
  refine W.seq_k fun K7 hK7 => ?_
  refine W.regionT [(0, false), (1, false), (2, false)] (by kernel_rfl) ?_
  obtain ⟨x_9, hr8, hR⟩ := hR
  refine Plan.call (vs := [VU .u64 (1#64)]) rfl FRef06.call42 rfl (letheref06_Int_ok  hr8 h6) ?_
  rintro _ w10 ⟨rfl, h10⟩
  refine ⟨_, rfl, .inl ⟨PIn.keep PIn.nil h10, ?_⟩⟩
  refine Plan.alloc h10 rfl FRef06.z44 PIn.nil fun b11 w11 hb11 h11 => ?_
  simp only [rngs, Nat.zero_add, Nat.reduceAdd, List.cons_append, List.nil_append] at h11
  refine Plan.storeA (f' := fun q => .int .i64 (x_9 q)) h11 0 rfl rfl rfl rfl (fun _ _ => rfl) FRef06.sz44 rfl fun w12 h12 => ?_
  simp only [List.cons_append, List.nil_append, List.set_cons_zero, List.set_cons_succ] at h12
  refine Plan.nil ?_
  refine hK7 _ _ ?_; clear hK7
  refine W.seq_k fun K13 hK13 => ?_
  refine W.seq_k fun K14 hK14 => ?_
  refine W.regionT [(0, true)] (by kernel_rfl) ?_
  refine Plan.assign_int rfl rfl ?_
  refine Plan.nil ?_
  refine hK14 _ _ ?_; clear hK14
  obtain ⟨m76, hI77, hR077⟩ := hR
  refine W.cutN (fun e w => ∃ y_m76 : Nat → Int, m76 = y_m76 ∧ EnvHas e [(4, .pointer (some ⟨b6, 0, none⟩)), (5, .pointer (some ⟨b11, 0, none⟩))] ∧ St B w0 (⟨some b11, 0, 16, fun q => .int .i64 (y_m76 q), true⟩ :: ⟨some b6, 0, 16, fun q => .int .i64 ((fun _ => (0 : Int)) q), true⟩ :: L) w) ?_ ?_
  ·
    refine W.block ?_
    refine W.iter hI77 (fun (s77 : (Int × (Nat → Int))) e w => EnvHas e [(2, .pointer (some ⟨b4, 0, none⟩)), (3, .pointer (some ⟨b5, 0, none⟩)), (4, .pointer (some ⟨b6, 0, none⟩)), (5, .pointer (some ⟨b11, 0, none⟩)), (6, .int .i64 s77.1)] ∧ St B w0 (⟨some b11, 0, 16, fun q => .int .i64 (s77.2 q), true⟩ :: ⟨some b6, 0, 16, fun q => .int .i64 ((fun _ => (0 : Int)) q), true⟩ :: ⟨some b5, 0, 32, fun q => VU .u8 (n_2 q), true⟩ :: ⟨some b4, 0, 16, fun q => .int .i64 (a1 q), true⟩ :: L) w) ⟨(EnvHas.cons rfl (EnvHas.cons rfl (EnvHas.cons rfl (EnvHas.cons rfl (EnvHas.cons rfl EnvHas.nil))))), h12⟩ ?_
    rintro ⟨i_74, m75⟩ o77 hR hx77 ev78 wl78 ⟨he78, h78⟩
    obtain ⟨ev78, rfl⟩ := he78.open
    unfold letheref06_Pow_l0 at hR
    refine W.seq_k fun K79 hK79 => ?_
    refine W.seq_k fun K80 hK80 => ?_
    refine W.regionT [(0, true), (1, true)] (by kernel_rfl) ?_
    refine Plan.move_int rfl rfl ?_
    refine Plan.cmpP (a := (i_74 : Int)) (b := (0 : Int)) (p := 0 ≤ i_74) rfl rfl rfl rfl icmp_ge ?_
    refine Plan.nil ?_
    refine hK80 _ _ ?_; clear hK80
    by_cases hc81 : 0 ≤ i_74
    ·
      replace hR := ifT hR hc81
      refine W.condT (congrArg Value.bool (decide_eq_true hc81)) ?_
      refine W.skip ?_
      refine hK79 _ _ ?_; clear hK79
      refine W.seq_k fun K82 hK82 => ?_
      refine W.block ?_
      refine W.seq_k fun K83 hK83 => ?_
      refine W.regionT [(0, true), (1, true), (2, false), (3, false)] (by kernel_rfl) ?_
      refine Plan.loadA1 h78 0 rfl rfl rfl FRef06.agg44 ?_
      refine Plan.loadA1 h78 0 rfl rfl rfl FRef06.agg44 ?_
      obtain ⟨x_85, hr84, hR⟩ := hR
      refine Plan.call (vs := [AG [(16, fun q => .int .i64 (m75 q))], AG [(16, fun q => .int .i64 (m75 q))]]) rfl FRef06.call45 rfl (letheref06_Mul_ok  hr84 h78) ?_
      rintro _ w86 ⟨rfl, h86⟩
      refine ⟨_, rfl, .inr ⟨rfl, ?_⟩⟩
      refine Plan.storeA (f' := fun q => .int .i64 (x_85 q)) h86 0 rfl rfl rfl rfl (fun _ _ => rfl) FRef06.sz44 rfl fun w87 h87 => ?_
      simp only [List.cons_append, List.nil_append, List.set_cons_zero, List.set_cons_succ] at h87
      refine Plan.nil ?_
      refine hK83 _ _ ?_; clear hK83
      refine W.seq_k fun K88 hK88 => ?_
      refine W.regionT [(0, true), (1, true), (2, true), (3, true), (4, true), (5, true), (6, true), (7, true), (8, true)] (by kernel_rfl) ?_
      refine Plan.move_int rfl rfl ?_
      obtain ⟨hc89, hR⟩ := hR
      refine Plan.quoIw (a := i_74) (b := 8) rfl rfl rfl (by omega) hc89 ?_
      obtain ⟨hc90, hR⟩ := hR
      refine Plan.idxArr1 (j := (i_74.tdiv 8).toNat) FRef06.arr22 rfl rfl (congrArg (Value.int .i64) (Int.toNat_of_nonneg hc90.1).symm) (by omega) ?_
      refine Plan.load1 (j := (i_74.tdiv 8).toNat) h87 2 rfl rfl rfl (by omega) FRef06.sc5 ?_
      refine Plan.move_int rfl rfl ?_
      have hb91 := tmod_bd i_74 (c := 8) (by decide)
      refine Plan.remI (a := i_74) (b := 8) rfl rfl rfl (by omega) ?_
      obtain ⟨hc92, hR⟩ := hR
      refine Plan.shrU .u8 (X := (n_2 ((i_74.tdiv 8).toNat))) (c := (i_74.tmod 8).toNat) rfl rfl (congrArg (Value.int .i64) (Int.toNat_of_nonneg hc92).symm) ?_
      refine Plan.andU .u8 (X := ((n_2 ((i_74.tdiv 8).toNat)) >>> ((i_74.tmod 8).toNat))) (Y := 1#8) rfl rfl rfl ?_
      refine Plan.cmpP (a := ((((n_2 ((i_74.tdiv 8).toNat)) >>> ((i_74.tmod 8).toNat)) &&& (1#8)).toNat : Int)) (b := ((1#8).toNat : Int)) (p := (((n_2 ((i_74.tdiv 8).toNat)) >>> ((i_74.tmod 8).toNat)) &&& (1#8)) = 1#8) rfl rfl rfl rfl icmp_eqU ?_
      refine Plan.nil ?_
      refine hK88 _ _ ?_; clear hK88
      by_cases hc93 : (((n_2 ((i_74.tdiv 8).toNat)) >>> ((i_74.tmod 8).toNat)) &&& (1#8)) = 1#8
      ·
        replace hR := ifT hR hc93
        refine W.condT (congrArg Value.bool (decide_eq_true hc93)) ?_
        refine W.regionT [(0, true), (1, true), (2, false), (3, false)] (by kernel_rfl) ?_
        refine Plan.loadA1 h87 0 rfl rfl rfl FRef06.agg44 ?_
        refine Plan.loadA1 h87 3 rfl rfl rfl FRef06.agg44 ?_
        obtain ⟨x_95, hr94, hR⟩ := hR
        refine Plan.call (vs := [AG [(16, fun q => .int .i64 (x_85 q))], AG [(16, fun q => .int .i64 (a1 q))]]) rfl FRef06.call45 rfl (letheref06_Mul_ok  hr94 h87) ?_
        rintro _ w96 ⟨rfl, h96⟩
        refine ⟨_, rfl, .inr ⟨rfl, ?_⟩⟩
        refine Plan.storeA (f' := fun q => .int .i64 (x_95 q)) h96 0 rfl rfl rfl rfl (fun _ _ => rfl) FRef06.sz44 rfl fun w97 h97 => ?_
        simp only [List.cons_append, List.nil_append, List.set_cons_zero, List.set_cons_succ] at h97
        refine Plan.nil ?_
        refine blockR_norm ?_
        refine hK82 _ _ ?_; clear hK82
        refine W.regionT [(0, true), (1, true), (2, true)] (by kernel_rfl) ?_
        refine Plan.move_int rfl rfl ?_
        obtain ⟨hc98, hR⟩ := hR
        refine Plan.subI (a := i_74) (b := 1) rfl rfl rfl (by omega) ?_
        refine Plan.assign_int rfl rfl ?_
        refine Plan.nil ?_
        exact iterR_norm ⟨_, hR, (EnvHas.cons rfl (EnvHas.cons rfl (EnvHas.cons rfl (EnvHas.cons rfl (EnvHas.cons rfl EnvHas.nil))))), h97⟩
      ·
        replace hR := ifF hR hc93
        refine W.condF (congrArg Value.bool (decide_eq_false hc93)) ?_
        refine W.skip ?_
        refine blockR_norm ?_
        refine hK82 _ _ ?_; clear hK82
        refine W.regionT [(0, true), (1, true), (2, true)] (by kernel_rfl) ?_
        refine Plan.move_int rfl rfl ?_
        obtain ⟨hc99, hR⟩ := hR
        refine Plan.subI (a := i_74) (b := 1) rfl rfl rfl (by omega) ?_
        refine Plan.assign_int rfl rfl ?_
        refine Plan.nil ?_
        exact iterR_norm ⟨_, hR, (EnvHas.cons rfl (EnvHas.cons rfl (EnvHas.cons rfl (EnvHas.cons rfl (EnvHas.cons rfl EnvHas.nil))))), h87⟩
    ·
      replace hR := ifF hR hc81
      refine W.condF (congrArg Value.bool (decide_eq_false hc81)) ?_
      refine W.exit (thenR_exit (iterR_exit (blockR_here ?_)))
      have h100 := St.pickT (C := [_, _, _, _]) h78 [0, 1] (by decide)
      simp only [pick, List.filterMap_cons, List.filterMap_nil, List.getElem?_cons_zero, List.getElem?_cons_succ, List.cons_append, List.nil_append] at h100
      exact ⟨m75, (hx77 _ hR).symm, (EnvHas.cons rfl (EnvHas.cons rfl EnvHas.nil)), h100⟩
  ·
    rintro ev101 wl101 ⟨y_m76, hy101, he101, h101⟩
    obtain ⟨ev101, rfl⟩ := he101.open
    subst hy101
    replace hR := hR077
    refine hK13 _ _ ?_; clear hK13
    refine W.seq_k fun K102 hK102 => ?_
    refine W.regionT [(0, true), (1, false)] (by kernel_rfl) ?_
    refine Plan.loadA1 h101 0 rfl rfl rfl FRef06.agg44 ?_
    refine Plan.storeA (f' := fun q => .int .i64 (m76 q)) h101 1 rfl rfl rfl rfl (fun _ _ => rfl) FRef06.sz44 rfl fun w103 h103 => ?_
    simp only [List.cons_append, List.nil_append, List.set_cons_zero, List.set_cons_succ] at h103
    refine Plan.nil ?_
    refine hK102 _ _ ?_; clear hK102
    refine W.ret (finR_ret ?_)
    have h104 := St.pickT (C := [_, _]) h103 [] (by decide)
    simp only [pick, List.filterMap_cons, List.filterMap_nil, List.getElem?_cons_zero, List.getElem?_cons_succ, List.cons_append, List.nil_append] at h104
    subst r
    refine RetOk.mk (.agg h103 rfl (.cons 1 rfl .nil) FRef06.agg44 .nil) ?_
    exact ⟨rfl, h104⟩


set_option maxRecDepth 8000 in
set_option maxHeartbeats 1000000 in
theorem letheref06_Bytes_ok {B : Nat} {w0 w : World} {L : List Rg} {n_1 : Nat → Int} {r : (Nat → BitVec 8)} (hR : letheref06_Bytes n_1 r) (HST : St B w0 (L) w) :
    Calls Tryd.prog 48 #[AG [(16, fun q => .int .i64 (n_1 q))]] w fun e w' => e = .returned (AG [(32, fun q => VU .u8 (r q))]) ∧ St B w0 (L) w' := by
  refine W.enter 27 Tryd.func48 rfl rfl rfl ?_
  unfold letheref06_Bytes at hR
  refine W.seq_k fun K2 hK2 => ?_
  refine W.regionT [(0, false), (1, false)] (by kernel_rfl) ?_
  refine Plan.boxA HST rfl rfl PIn.nil fun b3 w3 hb3 h3 => ?_
  simp only [rngs, Nat.zero_add, Nat.reduceAdd, List.cons_append, List.nil_append] at h3
  refine Plan.alloc h3 rfl FRef06.z22 PIn.nil fun b4 w4 hb4 h4 => ?_
  simp only [rngs, Nat.zero_add, Nat.reduceAdd, List.cons_append, List.nil_append] at h4
  refine Plan.nil ?_
  refine hK2 _ _ ?_; clear hK2
  refine W.seq_k fun K5 hK5 => ?_
  refine W.regionT [(0, false)] (by kernel_rfl) ?_
  refine Plan.alloc h4 rfl FRef06.z22 PIn.nil fun b6 w6 hb6 h6 => ?_
  simp only [rngs, Nat.zero_add, Nat.reduceAdd, List.cons_append, List.nil_append] at h6
  refine Plan.nil ?_
  refine hK5 _ _ ?_; clear hK5
  refine W.seq_k fun K7 hK7 => ?_
  refine W.seq_k fun K8 hK8 => ?_
  refine W.regionT [(0, true)] (by kernel_rfl) ?_
  refine Plan.assign_int rfl rfl ?_
  refine Plan.nil ?_
  refine hK8 _ _ ?_; clear hK8
  obtain ⟨m31, hI32, hR032⟩ := hR
  refine W.cutN (fun e w => ∃ y_m31 : Nat → BitVec 8, m31 = y_m31 ∧ EnvHas e [(2, .pointer (some ⟨b4, 0, none⟩)), (3, .pointer (some ⟨b6, 0, none⟩))] ∧ St B w0 (⟨some b6, 0, 32, fun q => VU .u8 (y_m31 q), true⟩ :: ⟨some b4, 0, 32, fun q => VU .u8 ((fun _ => 0#8) q), true⟩ :: L) w) ?_ ?_
  ·
    refine W.block ?_
    refine W.iter hI32 (fun (s32 : (Nat × (Nat → BitVec 8))) e w => EnvHas e [(1, .pointer (some ⟨b3, 0, none⟩)), (2, .pointer (some ⟨b4, 0, none⟩)), (3, .pointer (some ⟨b6, 0, none⟩)), (4, VN s32.1)] ∧ St B w0 (⟨some b6, 0, 32, fun q => VU .u8 (s32.2 q), true⟩ :: ⟨some b4, 0, 32, fun q => VU .u8 ((fun _ => 0#8) q), true⟩ :: ⟨some b3, 0, 16, fun q => .int .i64 (n_1 q), true⟩ :: L) w) ⟨(EnvHas.cons rfl (EnvHas.cons rfl (EnvHas.cons rfl (EnvHas.cons rfl EnvHas.nil)))), h6⟩ ?_
    rintro ⟨i_29, m30⟩ o32 hR hx32 ev33 wl33 ⟨he33, h33⟩
    obtain ⟨ev33, rfl⟩ := he33.open
    unfold letheref06_Bytes_l0 at hR
    refine W.seq_k fun K34 hK34 => ?_
    refine W.seq_k fun K35 hK35 => ?_
    refine W.regionT [(0, true), (1, true)] (by kernel_rfl) ?_
    refine Plan.move_int rfl rfl ?_
    refine Plan.cmpP (a := (((i_29 : Nat) : Int) : Int)) (b := (16 : Int)) (p := i_29 < 16) rfl rfl rfl rfl icmp_ltN ?_
    refine Plan.nil ?_
    refine hK35 _ _ ?_; clear hK35
    by_cases hc36 : i_29 < 16
    ·
      replace hR := ifT hR hc36
      refine W.condT (congrArg Value.bool (decide_eq_true hc36)) ?_
      refine W.skip ?_
      refine hK34 _ _ ?_; clear hK34
      refine W.seq_k fun K37 hK37 => ?_
      refine W.block ?_
      refine W.seq_k fun K38 hK38 => ?_
      refine W.regionT [(0, true), (1, true), (2, true), (3, true), (4, true), (5, true), (6, true), (7, true), (8, false)] (by kernel_rfl) ?_
      refine Plan.move_int rfl rfl ?_
      refine Plan.mulN (a := 2) (b := i_29) rfl rfl rfl (by omega) ?_
      refine Plan.move_int rfl rfl ?_
      refine Plan.idxArr1 (j := i_29) FRef06.arr44 rfl rfl rfl (by omega) ?_
      refine Plan.load1 (j := i_29) h33 2 rfl rfl rfl (by omega) FRef06.sc3 ?_
      have hb39 := tmod_bd (n_1 i_29) (c := 256) (by decide)
      refine Plan.remI (a := (n_1 i_29)) (b := 256) rfl rfl rfl (by omega) ?_
      refine Plan.convIU .u8 (a := ((n_1 i_29).tmod 256)) FRef06.u5 FRef06.some3 rfl rfl ?_
      refine Plan.idxArr1 (j := (2 * i_29)) FRef06.arr22 rfl rfl rfl (by omega) ?_
      refine Plan.storeU (j := (2 * i_29)) (X := (BitVec.ofInt 8 ((n_1 i_29).tmod 256))) h33 0 rfl rfl rfl rfl (by omega) FRef06.sz5 rfl fun w40 h40 => ?_
      simp only [List.cons_append, List.nil_append, List.set_cons_zero, List.set_cons_succ] at h40
      refine Plan.nil ?_
      refine hK38 _ _ ?_; clear hK38
      refine W.regionT [(0, true), (1, true), (2, true), (3, true), (4, true), (5, true), (6, true), (7, true), (8, true), (9, false)] (by kernel_rfl) ?_
      refine Plan.move_int rfl rfl ?_
      refine Plan.mulN (a := 2) (b := i_29) rfl rfl rfl (by omega) ?_
      refine Plan.addN (a := (2 * i_29)) (b := 1) rfl rfl rfl (by omega) ?_
      refine Plan.move_int rfl rfl ?_
      refine Plan.idxArr1 (j := i_29) FRef06.arr44 rfl rfl rfl (by omega) ?_
      refine Plan.load1 (j := i_29) h40 2 rfl rfl rfl (by omega) FRef06.sc3 ?_
      obtain ⟨hc41, hR⟩ := hR
      refine Plan.quoIw (a := (n_1 i_29)) (b := 256) rfl rfl rfl (by omega) hc41 ?_
      refine Plan.convIU .u8 (a := ((n_1 i_29).tdiv 256)) FRef06.u5 FRef06.some3 rfl rfl ?_
      refine Plan.idxArr1 (j := ((2 * i_29) + 1)) FRef06.arr22 rfl rfl rfl (by omega) ?_
      refine Plan.storeU (j := ((2 * i_29) + 1)) (X := (BitVec.ofInt 8 ((n_1 i_29).tdiv 256))) h40 0 rfl rfl rfl rfl (by omega) FRef06.sz5 rfl fun w42 h42 => ?_
      simp only [List.cons_append, List.nil_append, List.set_cons_zero, List.set_cons_succ] at h42
      refine Plan.nil ?_
      refine blockR_norm ?_
      refine hK37 _ _ ?_; clear hK37
      refine W.regionT [(0, true), (1, true), (2, true)] (by kernel_rfl) ?_
      refine Plan.move_int rfl rfl ?_
      refine Plan.addN (a := i_29) (b := 1) rfl rfl rfl (by omega) ?_
      refine Plan.assign_int rfl rfl ?_
      refine Plan.nil ?_
      exact iterR_norm ⟨_, hR, (EnvHas.cons rfl (EnvHas.cons rfl (EnvHas.cons rfl (EnvHas.cons rfl EnvHas.nil)))), h42⟩
    ·
      replace hR := ifF hR hc36
      refine W.condF (congrArg Value.bool (decide_eq_false hc36)) ?_
      refine W.exit (thenR_exit (iterR_exit (blockR_here ?_)))
      have h43 := St.pickT (C := [_, _, _]) h33 [0, 1] (by decide)
      simp only [pick, List.filterMap_cons, List.filterMap_nil, List.getElem?_cons_zero, List.getElem?_cons_succ, List.cons_append, List.nil_append] at h43
      exact ⟨m30, (hx32 _ hR).symm, (EnvHas.cons rfl (EnvHas.cons rfl EnvHas.nil)), h43⟩
  ·
    rintro ev44 wl44 ⟨y_m31, hy44, he44, h44⟩
    obtain ⟨ev44, rfl⟩ := he44.open
    subst hy44
    replace hR := hR032
    refine hK7 _ _ ?_; clear hK7
    refine W.seq_k fun K45 hK45 => ?_
    refine W.regionT [(0, true), (1, false)] (by kernel_rfl) ?_
    refine Plan.loadA1 h44 0 rfl rfl rfl FRef06.agg22 ?_
    refine Plan.storeA (f' := fun q => VU .u8 (m31 q)) h44 1 rfl rfl rfl rfl (fun _ _ => rfl) FRef06.sz22 rfl fun w46 h46 => ?_
    simp only [List.cons_append, List.nil_append, List.set_cons_zero, List.set_cons_succ] at h46
    refine Plan.nil ?_
    refine hK45 _ _ ?_; clear hK45
    refine W.ret (finR_ret ?_)
    have h47 := St.pickT (C := [_, _]) h46 [] (by decide)
    simp only [pick, List.filterMap_cons, List.filterMap_nil, List.getElem?_cons_zero, List.getElem?_cons_succ, List.cons_append, List.nil_append] at h47
    subst r
    refine RetOk.mk (.agg h46 rfl (.cons 1 rfl .nil) FRef06.agg22 .nil) ?_
    exact ⟨rfl, h47⟩


set_option maxRecDepth 8000 in
set_option maxHeartbeats 1000000 in
theorem letheref06_less2_ok {B : Nat} {w0 w : World} {L : List Rg}  {r : (Nat → BitVec 8)} (hR : letheref06_less2 r) (HST : St B w0 (L) w) :
    Calls Tryd.prog 79 #[] w fun e w' => e = .returned (AG [(32, fun q => VU .u8 (r q))]) ∧ St B w0 (L) w' := by
  refine W.enter 5 Tryd.func79 rfl rfl rfl ?_
  unfold letheref06_less2 at hR
  refine W.seq_k fun K1 hK1 => ?_
  refine W.regionT [(0, false)] (by kernel_rfl) ?_
  refine Plan.alloc HST rfl FRef06.z22 PIn.nil fun b2 w2 hb2 h2 => ?_
  simp only [rngs, Nat.zero_add, Nat.reduceAdd, List.cons_append, List.nil_append] at h2
  refine Plan.nil ?_
  refine hK1 _ _ ?_; clear hK1
  refine W.seq_k fun K3 hK3 => ?_
  refine W.regionT [(0, false), (1, false), (2, false), (3, false), (4, false)] (by kernel_rfl) ?_
  obtain ⟨x_5, hr4, hR⟩ := hR
  refine Plan.call (vs := []) rfl FRef06.call61 rfl (letheref06_prime_ok  hr4 h2) ?_
  rintro _ w6 ⟨rfl, h6⟩
  refine ⟨_, rfl, .inl ⟨PIn.keep PIn.nil h6, ?_⟩⟩
  obtain ⟨x_8, hr7, hR⟩ := hR
  refine Plan.call (vs := [VU .u64 (2#64)]) rfl FRef06.call42 rfl (letheref06_Int_ok  hr7 h6) ?_
  rintro _ w9 ⟨rfl, h9⟩
  refine ⟨_, rfl, .inl ⟨PIn.keep PIn.nil h9, ?_⟩⟩
  obtain ⟨x_11, hr10, hR⟩ := hR
  refine Plan.call (vs := [AG [(16, fun q => .int .i64 (x_5 q))], AG [(16, fun q => .int .i64 (x_8 q))]]) rfl FRef06.call78 rfl (letheref06_minus_ok  hr10 h9) ?_
  rintro _ w12 ⟨rfl, h12⟩
  refine ⟨_, rfl, .inl ⟨PIn.keep PIn.nil h12, ?_⟩⟩
  obtain ⟨x_14, hr13, hR⟩ := hR
  refine Plan.call (vs := [AG [(16, fun q => .int .i64 (x_11 q))]]) rfl FRef06.call48 rfl (letheref06_Bytes_ok  hr13 h12) ?_
  rintro _ w15 ⟨rfl, h15⟩
  refine ⟨_, rfl, .inl ⟨PIn.keep PIn.nil h15, ?_⟩⟩
  refine Plan.storeA (f' := fun q => VU .u8 (x_14 q)) h15 0 rfl rfl rfl rfl (fun _ _ => rfl) FRef06.sz22 rfl fun w16 h16 => ?_
  simp only [List.cons_append, List.nil_append, List.set_cons_zero, List.set_cons_succ] at h16
  refine Plan.nil ?_
  refine hK3 _ _ ?_; clear hK3
  refine W.ret (finR_ret ?_)
  have h17 := St.pickT (C := [_]) h16 [] (by decide)
  simp only [pick, List.filterMap_cons, List.filterMap_nil, List.getElem?_cons_zero, List.getElem?_cons_succ, List.cons_append, List.nil_append] at h17
  subst r
  refine RetOk.mk (.agg h16 rfl (.cons 0 rfl .nil) FRef06.agg22 .nil) ?_
  exact ⟨rfl, h17⟩


set_option maxRecDepth 8000 in
set_option maxHeartbeats 1000000 in
theorem letheref06_Inv_ok {B : Nat} {w0 w : World} {L : List Rg} {a1 : Nat → Int} {r : (Nat → Int)} (hR : letheref06_Inv a1 r) (HST : St B w0 (L) w) :
    Calls Tryd.prog 64 #[AG [(16, fun q => .int .i64 (a1 q))]] w fun e w' => e = .returned (AG [(16, fun q => .int .i64 (r q))]) ∧ St B w0 (L) w' := by
  refine W.enter 6 Tryd.func64 rfl rfl rfl ?_
  unfold letheref06_Inv at hR
  refine W.seq_k fun K2 hK2 => ?_
  refine W.regionT [(0, false), (1, false)] (by kernel_rfl) ?_
  refine Plan.boxA HST rfl rfl PIn.nil fun b3 w3 hb3 h3 => ?_
  simp only [rngs, Nat.zero_add, Nat.reduceAdd, List.cons_append, List.nil_append] at h3
  refine Plan.alloc h3 rfl FRef06.z44 PIn.nil fun b4 w4 hb4 h4 => ?_
  simp only [rngs, Nat.zero_add, Nat.reduceAdd, List.cons_append, List.nil_append] at h4
  refine Plan.nil ?_
  refine hK2 _ _ ?_; clear hK2
  refine W.seq_k fun K5 hK5 => ?_
  refine W.regionD FRef06.mixed [(0, true), (1, false), (2, false), (3, false)] (by kernel_rfl) ?_
  have h6 := h4.drew
  refine Plan.loadA1 h6 1 rfl rfl rfl FRef06.agg44 ?_
  obtain ⟨x_8, hr7, hR⟩ := hR
  refine Plan.call (vs := []) rfl FRef06.call79 rfl (letheref06_less2_ok  hr7 h6) ?_
  rintro _ w9 ⟨rfl, h9⟩
  refine ⟨_, rfl, .inl ⟨PIn.keep (PIn.cons 1 rfl PIn.nil) h9, ?_⟩⟩
  obtain ⟨x_11, hr10, hR⟩ := hR
  refine Plan.call (vs := [AG [(16, fun q => .int .i64 (a1 q))], AG [(32, fun q => VU .u8 (x_8 q))]]) rfl FRef06.call63 rfl (letheref06_Pow_ok  hr10 h9) ?_
  rintro _ w12 ⟨rfl, h12⟩
  refine ⟨_, rfl, .inr ⟨rfl, ?_⟩⟩
  refine Plan.storeA (f' := fun q => .int .i64 (x_11 q)) h12 0 rfl rfl rfl rfl (fun _ _ => rfl) FRef06.sz44 rfl fun w13 h13 => ?_
  simp only [List.cons_append, List.nil_append, List.set_cons_zero, List.set_cons_succ] at h13
  refine Plan.nil ?_
  refine hK5 _ _ ?_; clear hK5
  refine W.ret (finR_ret ?_)
  have h14 := St.pickT (C := [_, _]) h13 [] (by decide)
  simp only [pick, List.filterMap_cons, List.filterMap_nil, List.getElem?_cons_zero, List.getElem?_cons_succ, List.cons_append, List.nil_append] at h14
  subst r
  refine RetOk.mk (.agg h13 rfl (.cons 0 rfl .nil) FRef06.agg44 .nil) ?_
  exact ⟨rfl, h14⟩


set_option maxRecDepth 8000 in
set_option maxHeartbeats 1000000 in
theorem letheref06_Sqrt_ok {B : Nat} {w0 w : World} {L : List Rg} {a1 : Nat → Int} {r : ((Nat → Int) × Bool)} (hR : letheref06_Sqrt a1 r) (HST : St B w0 (L) w) :
    Calls Tryd.prog 65 #[AG [(16, fun q => .int .i64 (a1 q))]] w fun e w' => e = .returned (.tuple #[AG [(16, fun q => .int .i64 (r.1 q))], .bool r.2]) ∧ St B w0 (L) w' := by
  refine W.enter 51 Tryd.func65 rfl rfl rfl ?_
  unfold letheref06_Sqrt at hR
  refine W.seq_k fun K2 hK2 => ?_
  refine W.regionT [(0, false), (1, false), (2, true)] (by kernel_rfl) ?_
  refine Plan.boxA HST rfl rfl PIn.nil fun b3 w3 hb3 h3 => ?_
  simp only [rngs, Nat.zero_add, Nat.reduceAdd, List.cons_append, List.nil_append] at h3
  refine Plan.alloc h3 rfl FRef06.z44 PIn.nil fun b4 w4 hb4 h4 => ?_
  simp only [rngs, Nat.zero_add, Nat.reduceAdd, List.cons_append, List.nil_append] at h4
  refine Plan.assign_bool rfl rfl ?_
  refine Plan.nil ?_
  refine hK2 _ _ ?_; clear hK2
  refine W.seq_k fun K5 hK5 => ?_
  refine W.regionT [(0, false)] (by kernel_rfl) ?_
  refine Plan.alloc h4 rfl FRef06.z22 PIn.nil fun b6 w6 hb6 h6 => ?_
  simp only [rngs, Nat.zero_add, Nat.reduceAdd, List.cons_append, List.nil_append] at h6
  refine Plan.nil ?_
  refine hK5 _ _ ?_; clear hK5
  refine W.seq_k fun K7 hK7 => ?_
  refine W.seq_k fun K8 hK8 => ?_
  refine W.regionT [(0, true)] (by kernel_rfl) ?_
  refine Plan.assign_int rfl rfl ?_
  refine Plan.nil ?_
  refine hK8 _ _ ?_; clear hK8
  obtain ⟨m23, hI24, hR024⟩ := hR
  refine W.cutN (fun e w => ∃ y_m23 : Nat → BitVec 8, m23 = y_m23 ∧ EnvHas e [(1, .pointer (some ⟨b3, 0, none⟩)), (2, .pointer (some ⟨b4, 0, none⟩)), (4, .pointer (some ⟨b6, 0, none⟩))] ∧ St B w0 (⟨some b6, 0, 32, fun q => VU .u8 (y_m23 q), true⟩ :: ⟨some b4, 0, 16, fun q => .int .i64 ((fun _ => (0 : Int)) q), true⟩ :: ⟨some b3, 0, 16, fun q => .int .i64 (a1 q), true⟩ :: L) w) ?_ ?_
  ·
    refine W.block ?_
    refine W.iter hI24 (fun (s24 : (Nat × (Nat → BitVec 8))) e w => EnvHas e [(1, .pointer (some ⟨b3, 0, none⟩)), (2, .pointer (some ⟨b4, 0, none⟩)), (4, .pointer (some ⟨b6, 0, none⟩)), (5, VN s24.1)] ∧ St B w0 (⟨some b6, 0, 32, fun q => VU .u8 (s24.2 q), true⟩ :: ⟨some b4, 0, 16, fun q => .int .i64 ((fun _ => (0 : Int)) q), true⟩ :: ⟨some b3, 0, 16, fun q => .int .i64 (a1 q), true⟩ :: L) w) ⟨(EnvHas.cons rfl (EnvHas.cons rfl (EnvHas.cons rfl (EnvHas.cons rfl EnvHas.nil)))), h6⟩ ?_
    rintro ⟨i_21, m22⟩ o24 hR hx24 ev25 wl25 ⟨he25, h25⟩
    obtain ⟨ev25, rfl⟩ := he25.open
    unfold letheref06_Sqrt_l0 at hR
    refine W.seq_k fun K26 hK26 => ?_
    refine W.seq_k fun K27 hK27 => ?_
    refine W.regionT [(0, true), (1, true)] (by kernel_rfl) ?_
    refine Plan.move_int rfl rfl ?_
    refine Plan.cmpP (a := (((i_21 : Nat) : Int) : Int)) (b := (32 : Int)) (p := i_21 < 32) rfl rfl rfl rfl icmp_ltN ?_
    refine Plan.nil ?_
    refine hK27 _ _ ?_; clear hK27
    by_cases hc28 : i_21 < 32
    ·
      replace hR := ifT hR hc28
      refine W.condT (congrArg Value.bool (decide_eq_true hc28)) ?_
      refine W.skip ?_
      refine hK26 _ _ ?_; clear hK26
      refine W.seq_k fun K29 hK29 => ?_
      refine W.block ?_
      refine W.regionT [(0, true), (1, true), (2, false)] (by kernel_rfl) ?_
      refine Plan.move_int rfl rfl ?_
      refine Plan.idxArr1 (j := i_21) FRef06.arr22 rfl rfl rfl (by omega) ?_
      refine Plan.storeU (j := i_21) (X := 255#8) h25 0 rfl rfl rfl rfl (by omega) FRef06.sz5 rfl fun w30 h30 => ?_
      simp only [List.cons_append, List.nil_append, List.set_cons_zero, List.set_cons_succ] at h30
      refine Plan.nil ?_
      refine blockR_norm ?_
      refine hK29 _ _ ?_; clear hK29
      refine W.regionT [(0, true), (1, true), (2, true)] (by kernel_rfl) ?_
      refine Plan.move_int rfl rfl ?_
      refine Plan.addN (a := i_21) (b := 1) rfl rfl rfl (by omega) ?_
      refine Plan.assign_int rfl rfl ?_
      refine Plan.nil ?_
      exact iterR_norm ⟨_, hR, (EnvHas.cons rfl (EnvHas.cons rfl (EnvHas.cons rfl (EnvHas.cons rfl EnvHas.nil)))), h30⟩
    ·
      replace hR := ifF hR hc28
      refine W.condF (congrArg Value.bool (decide_eq_false hc28)) ?_
      refine W.exit (thenR_exit (iterR_exit (blockR_here ?_)))
      exact ⟨m22, (hx24 _ hR).symm, (EnvHas.cons rfl (EnvHas.cons rfl (EnvHas.cons rfl EnvHas.nil))), h25⟩
  ·
    rintro ev31 wl31 ⟨y_m23, hy31, he31, h31⟩
    obtain ⟨ev31, rfl⟩ := he31.open
    subst hy31
    replace hR := hR024
    refine hK7 _ _ ?_; clear hK7
    refine W.seq_k fun K32 hK32 => ?_
    refine W.regionT [(0, true), (1, false)] (by kernel_rfl) ?_
    refine Plan.idxArr1 (j := 0) FRef06.arr22 rfl rfl rfl (by omega) ?_
    refine Plan.storeU (j := 0) (X := 254#8) h31 0 rfl rfl rfl rfl (by omega) FRef06.sz5 rfl fun w33 h33 => ?_
    simp only [List.cons_append, List.nil_append, List.set_cons_zero, List.set_cons_succ] at h33
    refine Plan.nil ?_
    refine hK32 _ _ ?_; clear hK32
    refine W.seq_k fun K34 hK34 => ?_
    refine W.regionT [(0, true), (1, false)] (by kernel_rfl) ?_
    refine Plan.idxArr1 (j := 31) FRef06.arr22 rfl rfl rfl (by omega) ?_
    refine Plan.storeU (j := 31) (X := 15#8) h33 0 rfl rfl rfl rfl (by omega) FRef06.sz5 rfl fun w35 h35 => ?_
    simp only [List.cons_append, List.nil_append, List.set_cons_zero, List.set_cons_succ] at h35
    refine Plan.nil ?_
    refine hK34 _ _ ?_; clear hK34
    refine W.seq_k fun K36 hK36 => ?_
    refine W.regionT [(0, true), (1, true), (2, false), (3, false), (4, false)] (by kernel_rfl) ?_
    refine Plan.loadA1 h35 2 rfl rfl rfl FRef06.agg44 ?_
    refine Plan.loadA1 h35 0 rfl rfl rfl FRef06.agg22 ?_
    obtain ⟨x_38, hr37, hR⟩ := hR
    refine Plan.call (vs := [AG [(16, fun q => .int .i64 (a1 q))], AG [(32, fun q => VU .u8 ((upd (upd m23 0 (254#8)) 31 (15#8)) q))]]) rfl FRef06.call63 rfl (letheref06_Pow_ok  hr37 h35) ?_
    rintro _ w39 ⟨rfl, h39⟩
    refine ⟨_, rfl, .inr ⟨rfl, ?_⟩⟩
    refine Plan.alloc h39 rfl FRef06.z44 PIn.nil fun b40 w40 hb40 h40 => ?_
    simp only [rngs, Nat.zero_add, Nat.reduceAdd, List.cons_append, List.nil_append] at h40
    refine Plan.storeA (f' := fun q => .int .i64 (x_38 q)) h40 0 rfl rfl rfl rfl (fun _ _ => rfl) FRef06.sz44 rfl fun w41 h41 => ?_
    simp only [List.cons_append, List.nil_append, List.set_cons_zero, List.set_cons_succ] at h41
    refine Plan.nil ?_
    refine hK36 _ _ ?_; clear hK36
    refine W.seq_k fun K42 hK42 => ?_
    obtain ⟨m92, hX93, hR093⟩ := hR
    refine W.cutN (fun e w => ∃ y_m92 : Nat → Int, (m92 = y_m92) ∧ EnvHas e [(1, .pointer (some ⟨b3, 0, none⟩)), (2, .pointer (some ⟨b4, 0, none⟩)), (6, .pointer (some ⟨b40, 0, none⟩))] ∧ St B w0 (⟨some b40, 0, 16, fun q => .int .i64 (y_m92 q), true⟩ :: ⟨some b4, 0, 16, fun q => .int .i64 ((fun _ => (0 : Int)) q), true⟩ :: ⟨some b3, 0, 16, fun q => .int .i64 (a1 q), true⟩ :: L) w) ?_ ?_
    ·
      replace hR := hX93
      refine W.seq_k fun K94 hK94 => ?_
      refine W.regionD FRef06.mixed [(0, true), (1, true), (3, true), (2, false), (4, true)] (by kernel_rfl) ?_
      have h95 := h41.drew
      refine Plan.loadA1 h95 0 rfl rfl rfl FRef06.agg44 ?_
      refine Plan.loadA1 h95 0 rfl rfl rfl FRef06.agg44 ?_
      refine Plan.loadA1 h95 3 rfl rfl rfl FRef06.agg44 ?_
      obtain ⟨x_97, hr96, hR⟩ := hR
      refine Plan.call (vs := [AG [(16, fun q => .int .i64 (x_38 q))], AG [(16, fun q => .int .i64 (x_38 q))]]) rfl FRef06.call45 rfl (letheref06_Mul_ok  hr96 h95) ?_
      rintro _ w98 ⟨rfl, h98⟩
      refine ⟨_, rfl, .inl ⟨PIn.keep (PIn.cons 3 rfl (PIn.cons 0 rfl (PIn.cons 0 rfl PIn.nil))) h98, ?_⟩⟩
      refine Plan.neArrIV (b := (eqI 16 x_97 a1)) FRef06.arrI44 rfl rfl rfl rfl ?_
      refine Plan.nil ?_
      refine hK94 _ _ ?_; clear hK94
      by_cases hc99 : (eqI 16 x_97 a1) = true
      ·
        replace hR := ifT hR hc99
        refine W.condF (congrArg Value.bool (congrArg Bool.not hc99)) ?_
        refine W.skip ?_
        have h100 := St.pickT (C := [_, _, _, _]) h98 [0, 2, 3] (by decide)
        simp only [pick, List.filterMap_cons, List.filterMap_nil, List.getElem?_cons_zero, List.getElem?_cons_succ, List.cons_append, List.nil_append] at h100
        exact ⟨x_38, hR, (EnvHas.cons rfl (EnvHas.cons rfl (EnvHas.cons rfl EnvHas.nil))), h100⟩
      ·
        replace hR := ifF hR hc99
        refine W.condT (congrArg Value.bool (congrArg Bool.not (Bool.eq_false_iff.2 hc99))) ?_
        refine W.seq_k fun K101 hK101 => ?_
        refine W.regionT [(0, false)] (by kernel_rfl) ?_
        refine Plan.alloc h98 rfl FRef06.z22 PIn.nil fun b102 w102 hb102 h102 => ?_
        simp only [rngs, Nat.zero_add, Nat.reduceAdd, List.cons_append, List.nil_append] at h102
        refine Plan.nil ?_
        refine hK101 _ _ ?_; clear hK101
        refine W.seq_k fun K103 hK103 => ?_
        refine W.seq_k fun K104 hK104 => ?_
        refine W.regionT [(0, true)] (by kernel_rfl) ?_
        refine Plan.assign_int rfl rfl ?_
        refine Plan.nil ?_
        refine hK104 _ _ ?_; clear hK104
        obtain ⟨m119, hI120, hR0120⟩ := hR
        refine W.cutN (fun e w => ∃ y_m119 : Nat → BitVec 8, m119 = y_m119 ∧ EnvHas e [(1, .pointer (some ⟨b3, 0, none⟩)), (2, .pointer (some ⟨b4, 0, none⟩)), (6, .pointer (some ⟨b40, 0, none⟩)), (7, .pointer (some ⟨b102, 0, none⟩))] ∧ St B w0 (⟨some b102, 0, 32, fun q => VU .u8 (y_m119 q), true⟩ :: ⟨some b40, 0, 16, fun q => .int .i64 (x_38 q), true⟩ :: ⟨some b4, 0, 16, fun q => .int .i64 ((fun _ => (0 : Int)) q), true⟩ :: ⟨some b3, 0, 16, fun q => .int .i64 (a1 q), true⟩ :: L) w) ?_ ?_
        ·
          refine W.block ?_
          have h121 := St.pickT (C := [_, _, _, _, _]) h102 [0, 1, 3, 4] (by decide)
          simp only [pick, List.filterMap_cons, List.filterMap_nil, List.getElem?_cons_zero, List.getElem?_cons_succ, List.cons_append, List.nil_append] at h121
          refine W.iter hI120 (fun (s120 : (Nat × (Nat → BitVec 8))) e w => EnvHas e [(1, .pointer (some ⟨b3, 0, none⟩)), (2, .pointer (some ⟨b4, 0, none⟩)), (6, .pointer (some ⟨b40, 0, none⟩)), (7, .pointer (some ⟨b102, 0, none⟩)), (8, VN s120.1)] ∧ St B w0 (⟨some b102, 0, 32, fun q => VU .u8 (s120.2 q), true⟩ :: ⟨some b40, 0, 16, fun q => .int .i64 (x_38 q), true⟩ :: ⟨some b4, 0, 16, fun q => .int .i64 ((fun _ => (0 : Int)) q), true⟩ :: ⟨some b3, 0, 16, fun q => .int .i64 (a1 q), true⟩ :: L) w) ⟨(EnvHas.cons rfl (EnvHas.cons rfl (EnvHas.cons rfl (EnvHas.cons rfl (EnvHas.cons rfl EnvHas.nil))))), h121⟩ ?_
          rintro ⟨i_117, m118⟩ o120 hR hx120 ev122 wl122 ⟨he122, h122⟩
          obtain ⟨ev122, rfl⟩ := he122.open
          unfold letheref06_Sqrt_l1 at hR
          refine W.seq_k fun K123 hK123 => ?_
          refine W.seq_k fun K124 hK124 => ?_
          refine W.regionT [(0, true), (1, true)] (by kernel_rfl) ?_
          refine Plan.move_int rfl rfl ?_
          refine Plan.cmpP (a := (((i_117 : Nat) : Int) : Int)) (b := (32 : Int)) (p := i_117 < 32) rfl rfl rfl rfl icmp_ltN ?_
          refine Plan.nil ?_
          refine hK124 _ _ ?_; clear hK124
          by_cases hc125 : i_117 < 32
          ·
            replace hR := ifT hR hc125
            refine W.condT (congrArg Value.bool (decide_eq_true hc125)) ?_
            refine W.skip ?_
            refine hK123 _ _ ?_; clear hK123
            refine W.seq_k fun K126 hK126 => ?_
            refine W.block ?_
            refine W.regionT [(0, true), (1, true), (2, false)] (by kernel_rfl) ?_
            refine Plan.move_int rfl rfl ?_
            refine Plan.idxArr1 (j := i_117) FRef06.arr22 rfl rfl rfl (by omega) ?_
            refine Plan.storeU (j := i_117) (X := 255#8) h122 0 rfl rfl rfl rfl (by omega) FRef06.sz5 rfl fun w127 h127 => ?_
            simp only [List.cons_append, List.nil_append, List.set_cons_zero, List.set_cons_succ] at h127
            refine Plan.nil ?_
            refine blockR_norm ?_
            refine hK126 _ _ ?_; clear hK126
            refine W.regionT [(0, true), (1, true), (2, true)] (by kernel_rfl) ?_
            refine Plan.move_int rfl rfl ?_
            refine Plan.addN (a := i_117) (b := 1) rfl rfl rfl (by omega) ?_
            refine Plan.assign_int rfl rfl ?_
            refine Plan.nil ?_
            exact iterR_norm ⟨_, hR, (EnvHas.cons rfl (EnvHas.cons rfl (EnvHas.cons rfl (EnvHas.cons rfl (EnvHas.cons rfl EnvHas.nil))))), h127⟩
          ·
            replace hR := ifF hR hc125
            refine W.condF (congrArg Value.bool (decide_eq_false hc125)) ?_
            refine W.exit (thenR_exit (iterR_exit (blockR_here ?_)))
            exact ⟨m118, (hx120 _ hR).symm, (EnvHas.cons rfl (EnvHas.cons rfl (EnvHas.cons rfl (EnvHas.cons rfl EnvHas.nil)))), h122⟩
        ·
          rintro ev128 wl128 ⟨y_m119, hy128, he128, h128⟩
          obtain ⟨ev128, rfl⟩ := he128.open
          subst hy128
          replace hR := hR0120
          refine hK103 _ _ ?_; clear hK103
          refine W.seq_k fun K129 hK129 => ?_
          refine W.regionT [(0, true), (1, false)] (by kernel_rfl) ?_
          refine Plan.idxArr1 (j := 0) FRef06.arr22 rfl rfl rfl (by omega) ?_
          refine Plan.storeU (j := 0) (X := 251#8) h128 0 rfl rfl rfl rfl (by omega) FRef06.sz5 rfl fun w130 h130 => ?_
          simp only [List.cons_append, List.nil_append, List.set_cons_zero, List.set_cons_succ] at h130
          refine Plan.nil ?_
          refine hK129 _ _ ?_; clear hK129
          refine W.seq_k fun K131 hK131 => ?_
          refine W.regionT [(0, true), (1, false)] (by kernel_rfl) ?_
          refine Plan.idxArr1 (j := 31) FRef06.arr22 rfl rfl rfl (by omega) ?_
          refine Plan.storeU (j := 31) (X := 31#8) h130 0 rfl rfl rfl rfl (by omega) FRef06.sz5 rfl fun w132 h132 => ?_
          simp only [List.cons_append, List.nil_append, List.set_cons_zero, List.set_cons_succ] at h132
          refine Plan.nil ?_
          refine hK131 _ _ ?_; clear hK131
          refine W.regionD FRef06.mixed [(0, true), (2, true), (1, false), (3, false), (4, false), (5, false)] (by kernel_rfl) ?_
          have h133 := h132.drew
          refine Plan.loadA1 h133 1 rfl rfl rfl FRef06.agg44 ?_
          refine Plan.loadA1 h133 0 rfl rfl rfl FRef06.agg22 ?_
          obtain ⟨x_135, hr134, hR⟩ := hR
          refine Plan.call (vs := [VU .u64 (2#64)]) rfl FRef06.call42 rfl (letheref06_Int_ok  hr134 h133) ?_
          rintro _ w136 ⟨rfl, h136⟩
          refine ⟨_, rfl, .inl ⟨PIn.keep (PIn.cons 0 rfl (PIn.cons 1 rfl PIn.nil)) h136, ?_⟩⟩
          obtain ⟨x_138, hr137, hR⟩ := hR
          refine Plan.call (vs := [AG [(16, fun q => .int .i64 (x_135 q))], AG [(32, fun q => VU .u8 ((upd (upd m119 0 (251#8)) 31 (31#8)) q))]]) rfl FRef06.call63 rfl (letheref06_Pow_ok  hr137 h136) ?_
          rintro _ w139 ⟨rfl, h139⟩
          refine ⟨_, rfl, .inl ⟨PIn.keep (PIn.cons 0 rfl (PIn.cons 1 rfl PIn.nil)) h139, ?_⟩⟩
          obtain ⟨x_141, hr140, hR⟩ := hR
          refine Plan.call (vs := [AG [(16, fun q => .int .i64 (x_38 q))], AG [(16, fun q => .int .i64 (x_138 q))]]) rfl FRef06.call45 rfl (letheref06_Mul_ok  hr140 h139) ?_
          rintro _ w142 ⟨rfl, h142⟩
          refine ⟨_, rfl, .inl ⟨PIn.keep (PIn.cons 0 rfl (PIn.cons 1 rfl PIn.nil)) h142, ?_⟩⟩
          refine Plan.storeA (f' := fun q => .int .i64 (x_141 q)) h142 1 rfl rfl rfl rfl (fun _ _ => rfl) FRef06.sz44 rfl fun w143 h143 => ?_
          simp only [List.cons_append, List.nil_append, List.set_cons_zero, List.set_cons_succ] at h143
          refine Plan.nil ?_
          have h144 := St.pickT (C := [_, _, _, _]) h143 [1, 2, 3] (by decide)
          simp only [pick, List.filterMap_cons, List.filterMap_nil, List.getElem?_cons_zero, List.getElem?_cons_succ, List.cons_append, List.nil_append] at h144
          exact ⟨x_141, hR, (EnvHas.cons rfl (EnvHas.cons rfl (EnvHas.cons rfl EnvHas.nil))), h144⟩
    ·
      rintro ev145 wl145 ⟨y_m92, hy145_0, he145, h145⟩
      subst hy145_0
      obtain ⟨ev145, rfl⟩ := he145.open
      replace hR := hR093
      refine hK42 _ _ ?_; clear hK42
      refine W.seq_k fun K146 hK146 => ?_
      refine W.seq_k fun K147 hK147 => ?_
      refine W.regionD FRef06.mixed [(0, true), (1, true), (3, true), (2, false), (4, true)] (by kernel_rfl) ?_
      have h148 := h145.drew
      refine Plan.loadA1 h148 0 rfl rfl rfl FRef06.agg44 ?_
      refine Plan.loadA1 h148 0 rfl rfl rfl FRef06.agg44 ?_
      refine Plan.loadA1 h148 2 rfl rfl rfl FRef06.agg44 ?_
      obtain ⟨x_150, hr149, hR⟩ := hR
      refine Plan.call (vs := [AG [(16, fun q => .int .i64 (m92 q))], AG [(16, fun q => .int .i64 (m92 q))]]) rfl FRef06.call45 rfl (letheref06_Mul_ok  hr149 h148) ?_
      rintro _ w151 ⟨rfl, h151⟩
      refine ⟨_, rfl, .inl ⟨PIn.keep (PIn.cons 2 rfl (PIn.cons 0 rfl (PIn.cons 0 rfl PIn.nil))) h151, ?_⟩⟩
      refine Plan.neArrIV (b := (eqI 16 x_150 a1)) FRef06.arrI44 rfl rfl rfl rfl ?_
      refine Plan.nil ?_
      refine hK147 _ _ ?_; clear hK147
      by_cases hc152 : (eqI 16 x_150 a1) = true
      ·
        replace hR := ifT hR hc152
        refine W.condF (congrArg Value.bool (congrArg Bool.not hc152)) ?_
        refine W.skip ?_
        refine hK146 _ _ ?_; clear hK146
        refine W.seq_k fun K153 hK153 => ?_
        obtain ⟨m161, hX162, hR0162⟩ := hR
        refine W.cutN (fun e w => ∃ y_m161 : Nat → Int, (m161 = y_m161) ∧ EnvHas e [(2, .pointer (some ⟨b4, 0, none⟩)), (6, .pointer (some ⟨b40, 0, none⟩))] ∧ St B w0 (⟨some b40, 0, 16, fun q => .int .i64 (y_m161 q), true⟩ :: ⟨some b4, 0, 16, fun q => .int .i64 ((fun _ => (0 : Int)) q), true⟩ :: L) w) ?_ ?_
        ·
          replace hR := hX162
          refine W.seq_k fun K163 hK163 => ?_
          refine W.regionT [(0, true), (1, true), (2, true), (3, true)] (by kernel_rfl) ?_
          refine Plan.idxArr1 (j := 0) FRef06.arr44 rfl rfl rfl (by omega) ?_
          refine Plan.load1 (j := 0) h151 0 rfl rfl rfl (by omega) FRef06.sc3 ?_
          have hb164 := tmod_bd (m92 0) (c := 2) (by decide)
          refine Plan.remI (a := (m92 0)) (b := 2) rfl rfl rfl (by omega) ?_
          refine Plan.cmpP (a := (((m92 0).tmod 2) : Int)) (b := (1 : Int)) (p := ((m92 0).tmod 2) = 1) rfl rfl rfl rfl icmp_eq ?_
          refine Plan.nil ?_
          refine hK163 _ _ ?_; clear hK163
          by_cases hc165 : ((m92 0).tmod 2) = 1
          ·
            replace hR := ifT hR hc165
            refine W.condT (congrArg Value.bool (decide_eq_true hc165)) ?_
            refine W.regionT [(0, true), (1, false), (2, false)] (by kernel_rfl) ?_
            refine Plan.loadA1 h151 0 rfl rfl rfl FRef06.agg44 ?_
            obtain ⟨x_167, hr166, hR⟩ := hR
            refine Plan.call (vs := [AG [(16, fun q => .int .i64 (m92 q))]]) rfl FRef06.call62 rfl (letheref06_Neg_ok  hr166 h151) ?_
            rintro _ w168 ⟨rfl, h168⟩
            refine ⟨_, rfl, .inr ⟨rfl, ?_⟩⟩
            refine Plan.storeA (f' := fun q => .int .i64 (x_167 q)) h168 0 rfl rfl rfl rfl (fun _ _ => rfl) FRef06.sz44 rfl fun w169 h169 => ?_
            simp only [List.cons_append, List.nil_append, List.set_cons_zero, List.set_cons_succ] at h169
            refine Plan.nil ?_
            have h170 := St.pickT (C := [_, _, _]) h169 [0, 1] (by decide)
            simp only [pick, List.filterMap_cons, List.filterMap_nil, List.getElem?_cons_zero, List.getElem?_cons_succ, List.cons_append, List.nil_append] at h170
            exact ⟨x_167, hR, (EnvHas.cons rfl (EnvHas.cons rfl EnvHas.nil)), h170⟩
          ·
            replace hR := ifF hR hc165
            refine W.condF (congrArg Value.bool (decide_eq_false hc165)) ?_
            refine W.skip ?_
            have h171 := St.pickT (C := [_, _, _]) h151 [0, 1] (by decide)
            simp only [pick, List.filterMap_cons, List.filterMap_nil, List.getElem?_cons_zero, List.getElem?_cons_succ, List.cons_append, List.nil_append] at h171
            exact ⟨m92, hR, (EnvHas.cons rfl (EnvHas.cons rfl EnvHas.nil)), h171⟩
        ·
          rintro ev172 wl172 ⟨y_m161, hy172_0, he172, h172⟩
          subst hy172_0
          obtain ⟨ev172, rfl⟩ := he172.open
          replace hR := hR0162
          refine hK153 _ _ ?_; clear hK153
          refine W.seq_k fun K173 hK173 => ?_
          refine W.regionT [(0, true), (1, false), (2, true)] (by kernel_rfl) ?_
          refine Plan.loadA1 h172 0 rfl rfl rfl FRef06.agg44 ?_
          refine Plan.storeA (f' := fun q => .int .i64 (m161 q)) h172 1 rfl rfl rfl rfl (fun _ _ => rfl) FRef06.sz44 rfl fun w174 h174 => ?_
          simp only [List.cons_append, List.nil_append, List.set_cons_zero, List.set_cons_succ] at h174
          refine Plan.assign_bool rfl rfl ?_
          refine Plan.nil ?_
          refine hK173 _ _ ?_; clear hK173
          refine W.ret (finR_ret ?_)
          have h175 := St.pickT (C := [_, _]) h174 [] (by decide)
          simp only [pick, List.filterMap_cons, List.filterMap_nil, List.getElem?_cons_zero, List.getElem?_cons_succ, List.cons_append, List.nil_append] at h175
          subst r
          refine RetOk.mk (.agg h174 rfl (.cons 1 rfl .nil) FRef06.agg44 (.tmp_bool rfl .nil)) ?_
          exact ⟨rfl, h175⟩
      ·
        replace hR := ifF hR hc152
        refine W.condT (congrArg Value.bool (congrArg Bool.not (Bool.eq_false_iff.2 hc152))) ?_
        refine W.seq_k fun K176 hK176 => ?_
        refine W.regionT [(0, true), (1, false), (2, true)] (by kernel_rfl) ?_
        refine Plan.buildZ FRef06.row44 FRef06.z44 rfl ?_
        refine Plan.storeA (f' := fun q => .int .i64 ((fun _ => (0 : Int)) q)) h151 1 rfl rfl rfl rfl (fun _ _ => rfl) FRef06.sz44 rfl fun w177 h177 => ?_
        simp only [List.cons_append, List.nil_append, List.set_cons_zero, List.set_cons_succ] at h177
        refine Plan.assign_bool rfl rfl ?_
        refine Plan.nil ?_
        refine hK176 _ _ ?_; clear hK176
        refine W.ret (thenR_ret (finR_ret ?_))
        have h178 := St.pickT (C := [_, _, _]) h177 [] (by decide)
        simp only [pick, List.filterMap_cons, List.filterMap_nil, List.getElem?_cons_zero, List.getElem?_cons_succ, List.cons_append, List.nil_append] at h178
        subst r
        refine RetOk.mk (.agg h177 rfl (.cons 1 rfl .nil) FRef06.agg44 (.tmp_bool rfl .nil)) ?_
        exact ⟨rfl, h178⟩

end Go.Proofs.YtjblfkmmbpcpaaaDoor
