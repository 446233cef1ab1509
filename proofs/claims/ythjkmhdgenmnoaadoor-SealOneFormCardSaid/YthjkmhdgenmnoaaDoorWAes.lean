/-
  WALKS of the package's functions, printed by this session's own program (auto.py).
-/
import Derived.Test.YthjkmhdgenmnoaaDoorProg
import Derived.Test.YthjkmhdgenmnoaaDoorLx6
import Derived.Test.YthjkmhdgenmnoaaDoorRAes
namespace Go.Proofs.YthjkmhdgenmnoaaDoor
set_option linter.unusedSimpArgs false
set_option linter.unusedVariables false
set_option linter.unusedSectionVars false
open Go Go.LW
theorem FAes.isl24 : ∃ el, Tryd.prog.underlying 24 = some (.slice el) := ⟨5, by kernel_rfl⟩
theorem FAes.sl24 : slB Tryd.prog 24 1 = true := by kernel_rfl
theorem FAes.z31 : zeroIs Tryd.prog 31 [(16, fun _ => VU .u8 0#8)] := zeroIs_agg (by kernel_rfl)
theorem FAes.mixed : Tryd.prog.follows .mixedOrders = true := by kernel_rfl
theorem FAes.el24 : elD Tryd.prog 24 = some (1, 1, some (VU .u8 0#8)) := by kernel_rfl
theorem FAes.u5 : Tryd.prog.underlying 5 = some (.int .u8) := by kernel_rfl
theorem FAes.sz5 : szT Tryd.prog 5 1 = true := by kernel_rfl
theorem FAes.sc5 : scalarT Tryd.prog 5 = true := by kernel_rfl
theorem FAes.some5 : (Tryd.prog.underlying 5).isSome = true := by kernel_rfl
theorem FAes.some3 : (Tryd.prog.underlying 3).isSome = true := by kernel_rfl
theorem FAes.u73 : Tryd.prog.underlying 73 = some (.int .u64) := by kernel_rfl
theorem FAes.some73 : (Tryd.prog.underlying 73).isSome = true := by kernel_rfl
theorem FAes.agg31 : aggT Tryd.prog 31 16 = true := by kernel_rfl
theorem FAes.sz31 : szT Tryd.prog 31 16 = true := by kernel_rfl
theorem FAes.z66 : zeroIs Tryd.prog 66 [(256, fun _ => VU .u8 0#8), (256, fun _ => VU .u8 0#8), (256, fun _ => VU .u8 0#8)] := zeroIs_agg (by kernel_rfl)
theorem FAes.row66 : rowB Tryd.prog 66 = true := by kernel_rfl
theorem FAes.sz66 : szT Tryd.prog 66 768 = true := by kernel_rfl
theorem FAes.fld66_0 : fieldB Tryd.prog 66 0 0 = true := by kernel_rfl
theorem FAes.arr64 : arrB Tryd.prog 64 256 1 = true := by kernel_rfl
theorem FAes.fld66_1 : fieldB Tryd.prog 66 1 256 = true := by kernel_rfl
theorem FAes.call49 : callB Tryd.prog 49 = true := by kernel_rfl
theorem FAes.call50 : callB Tryd.prog 50 = true := by kernel_rfl
theorem FAes.fld66_2 : fieldB Tryd.prog 66 2 512 = true := by kernel_rfl
theorem FAes.agg66 : aggT Tryd.prog 66 768 = true := by kernel_rfl
theorem FAes.call33 : callB Tryd.prog 33 = true := by kernel_rfl
theorem FAes.pl70 : placesB Tryd.prog 70 [(0, 240), (240, 768)] = true := by kernel_rfl
theorem FAes.z70 : zeroIs Tryd.prog 70 [(240, fun _ => VU .u8 0#8), (256, fun _ => VU .u8 0#8), (256, fun _ => VU .u8 0#8), (256, fun _ => VU .u8 0#8)] := zeroIs_agg (by kernel_rfl)
theorem FAes.z88 : zeroIs Tryd.prog 88 [(240, fun _ => VU .u8 0#8)] := zeroIs_agg (by kernel_rfl)
theorem FAes.arr88 : arrB Tryd.prog 88 60 4 = true := by kernel_rfl
theorem FAes.arr87 : arrB Tryd.prog 87 4 1 = true := by kernel_rfl
theorem FAes.agg87 : aggT Tryd.prog 87 4 = true := by kernel_rfl
theorem FAes.z87 : zeroIs Tryd.prog 87 [(4, fun _ => VU .u8 0#8)] := zeroIs_agg (by kernel_rfl)
theorem FAes.sz87 : szT Tryd.prog 87 4 = true := by kernel_rfl
theorem FAes.fld70_1 : fieldB Tryd.prog 70 1 240 = true := by kernel_rfl
theorem FAes.agg88 : aggT Tryd.prog 88 240 = true := by kernel_rfl
theorem FAes.isarr88 : Tryd.prog.underlying 88 = some (.array 60 87) := by kernel_rfl
theorem FAes.fld70_0 : fieldB Tryd.prog 70 0 0 = true := by kernel_rfl
theorem FAes.arr68 : arrB Tryd.prog 68 15 16 = true := by kernel_rfl
theorem FAes.arr31 : arrB Tryd.prog 31 16 1 = true := by kernel_rfl
theorem FAes.call34 : callB Tryd.prog 34 = true := by kernel_rfl
theorem FAes.isarr31 : Tryd.prog.underlying 31 = some (.array 16 5) := by kernel_rfl
theorem FAes.call51 : callB Tryd.prog 51 = true := by kernel_rfl
theorem FAes.call52 : callB Tryd.prog 52 = true := by kernel_rfl
theorem FAes.call35 : callB Tryd.prog 35 = true := by kernel_rfl
theorem FAes.call36 : callB Tryd.prog 36 = true := by kernel_rfl

set_option maxRecDepth 8000 in
set_option maxHeartbeats 1000000 in
theorem aes_fill_1_ok {B : Nat} {w0 w : World} {L : List Rg} {a1 : BitVec 8} {inverse2 : BitVec 8} {ba3 : Nat} {abox4 : Nat → BitVec 8} {aback5 : Nat → BitVec 8} {atwo6 : Nat → BitVec 8} {r : ((Nat → BitVec 8) × (Nat → BitVec 8))} (hR : aes_fill_1 a1 inverse2 abox4 aback5 atwo6 r) (HST : St B w0 (⟨some ba3, 0, 256, fun q => VU .u8 (abox4 q), true⟩ :: ⟨some ba3, 256, 256, fun q => VU .u8 (aback5 q), true⟩ :: ⟨some ba3, 512, 256, fun q => VU .u8 (atwo6 q), true⟩ :: L) w) :
    Calls Tryd.prog 49 #[VU .u8 a1, VU .u8 inverse2, .pointer (some ⟨ba3, 0, none⟩)] w fun e w' => e = .returned (.tuple #[]) ∧ St B w0 (⟨some ba3, 0, 256, fun q => VU .u8 (r.1 q), true⟩ :: ⟨some ba3, 256, 256, fun q => VU .u8 (r.2 q), true⟩ :: ⟨some ba3, 512, 256, fun q => VU .u8 (atwo6 q), true⟩ :: L) w' := by
  refine W.enter 32 Tryd.func49 rfl rfl rfl ?_
  unfold aes_fill_1 at hR
  refine W.seq_k fun K7 hK7 => ?_
  refine W.regionT [(0, true), (1, true)] (by kernel_rfl) ?_
  refine Plan.move_int rfl rfl ?_
  refine Plan.assign_int rfl rfl ?_
  refine Plan.nil ?_
  refine hK7 _ _ ?_; clear hK7
  refine W.seq_k fun K8 hK8 => ?_
  refine W.seq_k fun K9 hK9 => ?_
  refine W.regionT [(0, true)] (by kernel_rfl) ?_
  refine Plan.assign_int rfl rfl ?_
  refine Plan.nil ?_
  refine hK9 _ _ ?_; clear hK9
  obtain ⟨x_24, hI25, hR025⟩ := hR
  refine W.cutN (fun e w => ∃ y_x_24 : BitVec 8, x_24 = y_x_24 ∧ EnvHas e [(0, VU .u8 a1), (2, .pointer (some ⟨ba3, 0, none⟩)), (5, VU .u8 y_x_24)] ∧ St B w0 (⟨some ba3, 0, 256, fun q => VU .u8 (abox4 q), true⟩ :: ⟨some ba3, 256, 256, fun q => VU .u8 (aback5 q), true⟩ :: ⟨some ba3, 512, 256, fun q => VU .u8 (atwo6 q), true⟩ :: L) w) ?_ ?_
  ·
    refine W.block ?_
    refine W.iter hI25 (fun (s25 : ((BitVec 8) × Nat)) e w => EnvHas e [(0, VU .u8 a1), (1, VU .u8 inverse2), (2, .pointer (some ⟨ba3, 0, none⟩)), (5, VU .u8 s25.1), (6, VN s25.2)] ∧ St B w0 (⟨some ba3, 0, 256, fun q => VU .u8 (abox4 q), true⟩ :: ⟨some ba3, 256, 256, fun q => VU .u8 (aback5 q), true⟩ :: ⟨some ba3, 512, 256, fun q => VU .u8 (atwo6 q), true⟩ :: L) w) ⟨(EnvHas.cons rfl (EnvHas.cons rfl (EnvHas.cons rfl (EnvHas.cons rfl (EnvHas.cons rfl EnvHas.nil))))), HST⟩ ?_
    rintro ⟨x_22, turn23⟩ o25 hR hx25 ev26 wl26 ⟨he26, h26⟩
    obtain ⟨ev26, rfl⟩ := he26.open
    unfold aes_fill_1_l0 at hR
    refine W.seq_k fun K27 hK27 => ?_
    refine W.seq_k fun K28 hK28 => ?_
    refine W.regionT [(0, true), (1, true)] (by kernel_rfl) ?_
    refine Plan.move_int rfl rfl ?_
    refine Plan.cmpP (a := (((turn23 : Nat) : Int) : Int)) (b := (4 : Int)) (p := turn23 ≤ 4) rfl rfl rfl rfl icmp_leN ?_
    refine Plan.nil ?_
    refine hK28 _ _ ?_; clear hK28
    by_cases hc29 : turn23 ≤ 4
    ·
      replace hR := ifT hR hc29
      refine W.condT (congrArg Value.bool (decide_eq_true hc29)) ?_
      refine W.skip ?_
      refine hK27 _ _ ?_; clear hK27
      refine W.seq_k fun K30 hK30 => ?_
      refine W.block ?_
      refine W.regionD FAes.mixed [(0, true), (1, true), (2, true), (3, true), (4, true), (5, true), (6, true), (7, true), (8, true), (9, true), (10, true)] (by kernel_rfl) ?_
      have h31 := h26.drew
      refine Plan.move_int rfl rfl ?_
      refine Plan.move_int rfl rfl ?_
      refine Plan.move_int rfl rfl ?_
      refine Plan.shlU .u8 (X := inverse2) (c := turn23) rfl rfl rfl ?_
      refine Plan.move_int rfl rfl ?_
      refine Plan.move_int rfl rfl ?_
      refine Plan.subN (a := 8) (b := turn23) rfl rfl rfl (by omega) ?_
      refine Plan.shrU .u8 (X := inverse2) (c := (8 - turn23)) rfl rfl rfl ?_
      refine Plan.orU .u8 (X := (inverse2 <<< turn23)) (Y := (inverse2 >>> (8 - turn23))) rfl rfl rfl ?_
      refine Plan.xorU .u8 (X := x_22) (Y := ((inverse2 <<< turn23) ||| (inverse2 >>> (8 - turn23)))) rfl rfl rfl ?_
      refine Plan.assign_int rfl rfl ?_
      refine Plan.nil ?_
      refine blockR_norm ?_
      refine hK30 _ _ ?_; clear hK30
      refine W.regionT [(0, true), (1, true), (2, true)] (by kernel_rfl) ?_
      refine Plan.move_int rfl rfl ?_
      refine Plan.addN (a := turn23) (b := 1) rfl rfl rfl (by omega) ?_
      refine Plan.assign_int rfl rfl ?_
      refine Plan.nil ?_
      exact iterR_norm ⟨_, hR, (EnvHas.cons rfl (EnvHas.cons rfl (EnvHas.cons rfl (EnvHas.cons rfl (EnvHas.cons rfl EnvHas.nil))))), h31⟩
    ·
      replace hR := ifF hR hc29
      refine W.condF (congrArg Value.bool (decide_eq_false hc29)) ?_
      refine W.exit (thenR_exit (iterR_exit (blockR_here ?_)))
      exact ⟨x_22, (hx25 _ hR).symm, (EnvHas.cons rfl (EnvHas.cons rfl (EnvHas.cons rfl EnvHas.nil))), h26⟩
  ·
    rintro ev32 wl32 ⟨y_x_24, hy32, he32, h32⟩
    obtain ⟨ev32, rfl⟩ := he32.open
    subst hy32
    replace hR := hR025
    refine hK8 _ _ ?_; clear hK8
    refine W.seq_k fun K33 hK33 => ?_
    refine W.regionT [(0, true), (1, true), (2, true), (3, true), (4, true), (5, false)] (by kernel_rfl) ?_
    refine Plan.move_int rfl rfl ?_
    refine Plan.move_int rfl rfl ?_
    refine Plan.xorU .u8 (X := x_24) (Y := 99#8) rfl rfl rfl ?_
    refine Plan.fieldAddr0 FAes.fld66_0 rfl rfl ?_
    refine Plan.idxArr1 (j := a1.toNat) FAes.arr64 rfl rfl rfl a1.isLt ?_
    refine Plan.storeU (j := a1.toNat) (X := (x_24 ^^^ (99#8))) h32 0 rfl rfl rfl rfl (by first | omega | exact a1.isLt) FAes.sz5 rfl fun w34 h34 => ?_
    simp only [List.cons_append, List.nil_append, List.set_cons_zero, List.set_cons_succ] at h34
    refine Plan.nil ?_
    refine hK33 _ _ ?_; clear hK33
    refine W.regionT [(0, true), (1, true), (2, true), (3, true), (4, true), (5, false)] (by kernel_rfl) ?_
    refine Plan.move_int rfl rfl ?_
    refine Plan.xorU .u8 (X := x_24) (Y := 99#8) rfl rfl rfl ?_
    refine Plan.move_int rfl rfl ?_
    refine Plan.fieldAddr 256 FAes.fld66_1 rfl rfl ?_
    refine Plan.idxArr1 (j := (x_24 ^^^ (99#8)).toNat) FAes.arr64 rfl rfl rfl (x_24 ^^^ (99#8)).isLt ?_
    refine Plan.storeU (j := (x_24 ^^^ (99#8)).toNat) (X := a1) h34 1 rfl rfl rfl rfl (by first | omega | exact (x_24 ^^^ (99#8)).isLt) FAes.sz5 rfl fun w35 h35 => ?_
    simp only [List.cons_append, List.nil_append, List.set_cons_zero, List.set_cons_succ] at h35
    refine Plan.nil ?_
    refine finR_norm ?_
    subst r
    refine RetOk.mk .nil ?_
    exact ⟨rfl, h35⟩


set_option maxRecDepth 8000 in
set_option maxHeartbeats 1000000 in
theorem aes_Mul_ok {B : Nat} {w0 w : World} {L : List Rg} {a1 : BitVec 8} {b2 : BitVec 8} {r : (BitVec 8)} (hR : aes_Mul a1 b2 r) (HST : St B w0 (L) w) :
    Calls Tryd.prog 50 #[VU .u8 a1, VU .u8 b2] w fun e w' => e = .returned (VU .u8 r) ∧ St B w0 (L) w' := by
  refine W.enter 26 Tryd.func50 rfl rfl rfl ?_
  unfold aes_Mul at hR
  refine W.seq_k fun K3 hK3 => ?_
  refine W.regionT [(0, true)] (by kernel_rfl) ?_
  refine Plan.assign_int rfl rfl ?_
  refine Plan.nil ?_
  refine hK3 _ _ ?_; clear hK3
  refine W.seq_k fun K4 hK4 => ?_
  refine W.regionT [(0, true)] (by kernel_rfl) ?_
  refine Plan.assign_int rfl rfl ?_
  refine Plan.nil ?_
  refine hK4 _ _ ?_; clear hK4
  refine W.seq_k fun K5 hK5 => ?_
  obtain ⟨out44, hI45, hR045⟩ := hR
  refine W.cutN (fun e w => ∃ y_out44 : BitVec 8, out44 = y_out44 ∧ EnvHas e [(5, VU .u8 y_out44)] ∧ St B w0 (L) w) ?_ ?_
  ·
    refine W.block ?_
    refine W.iter hI45 (fun (s45 : ((BitVec 8) × (BitVec 8) × (BitVec 8))) e w => EnvHas e [(0, VU .u8 s45.1), (1, VU .u8 s45.2.1), (5, VU .u8 s45.2.2)] ∧ St B w0 (L) w) ⟨(EnvHas.cons rfl (EnvHas.cons rfl (EnvHas.cons rfl EnvHas.nil))), HST⟩ ?_
    rintro ⟨a41, b42, out43⟩ o45 hR hx45 ev46 wl46 ⟨he46, h46⟩
    obtain ⟨ev46, rfl⟩ := he46.open
    unfold aes_Mul_l0 at hR
    refine W.seq_k fun K47 hK47 => ?_
    refine W.seq_k fun K48 hK48 => ?_
    refine W.regionT [(0, true), (1, true)] (by kernel_rfl) ?_
    refine Plan.move_int rfl rfl ?_
    refine Plan.cmpP (a := (b42.toNat : Int)) (b := ((0#8).toNat : Int)) (p := b42 ≠ 0#8) rfl rfl rfl rfl icmp_neU ?_
    refine Plan.nil ?_
    refine hK48 _ _ ?_; clear hK48
    by_cases hc49 : b42 ≠ 0#8
    ·
      replace hR := ifT hR hc49
      refine W.condT (congrArg Value.bool (decide_eq_true hc49)) ?_
      refine W.skip ?_
      refine hK47 _ _ ?_; clear hK47
      refine W.seq_k fun K50 hK50 => ?_
      refine W.block ?_
      refine W.seq_k fun K51 hK51 => ?_
      obtain ⟨out54, hX55, hR055⟩ := hR
      refine W.cutN (fun e w => ∃ y_out54 : BitVec 8, (out54 = y_out54) ∧ EnvHas e [(0, VU .u8 a41), (1, VU .u8 b42), (5, VU .u8 y_out54)] ∧ St B w0 (L) w) ?_ ?_
      ·
        replace hR := hX55
        refine W.seq_k fun K56 hK56 => ?_
        refine W.regionT [(0, true), (1, true), (2, true)] (by kernel_rfl) ?_
        refine Plan.move_int rfl rfl ?_
        refine Plan.andU .u8 (X := b42) (Y := 1#8) rfl rfl rfl ?_
        refine Plan.cmpP (a := ((b42 &&& (1#8)).toNat : Int)) (b := ((1#8).toNat : Int)) (p := (b42 &&& (1#8)) = 1#8) rfl rfl rfl rfl icmp_eqU ?_
        refine Plan.nil ?_
        refine hK56 _ _ ?_; clear hK56
        by_cases hc57 : (b42 &&& (1#8)) = 1#8
        ·
          replace hR := ifT hR hc57
          refine W.condT (congrArg Value.bool (decide_eq_true hc57)) ?_
          refine W.regionT [(0, true), (1, true), (2, true), (3, true)] (by kernel_rfl) ?_
          refine Plan.move_int rfl rfl ?_
          refine Plan.move_int rfl rfl ?_
          refine Plan.xorU .u8 (X := out43) (Y := a41) rfl rfl rfl ?_
          refine Plan.assign_int rfl rfl ?_
          refine Plan.nil ?_
          exact ⟨(out43 ^^^ a41), hR, (EnvHas.cons rfl (EnvHas.cons rfl (EnvHas.cons rfl EnvHas.nil))), h46⟩
        ·
          replace hR := ifF hR hc57
          refine W.condF (congrArg Value.bool (decide_eq_false hc57)) ?_
          refine W.skip ?_
          exact ⟨out43, hR, (EnvHas.cons rfl (EnvHas.cons rfl (EnvHas.cons rfl EnvHas.nil))), h46⟩
      ·
        rintro ev58 wl58 ⟨y_out54, hy58_0, he58, h58⟩
        subst hy58_0
        obtain ⟨ev58, rfl⟩ := he58.open
        replace hR := hR055
        refine hK51 _ _ ?_; clear hK51
        refine W.seq_k fun K59 hK59 => ?_
        refine W.regionT [(0, true), (1, true), (2, true), (3, true)] (by kernel_rfl) ?_
        refine Plan.move_int rfl rfl ?_
        refine Plan.andU .u8 (X := a41) (Y := 128#8) rfl rfl rfl ?_
        refine Plan.cmpP (a := ((a41 &&& (128#8)).toNat : Int)) (b := ((0#8).toNat : Int)) (p := (a41 &&& (128#8)) ≠ 0#8) rfl rfl rfl rfl icmp_neU ?_
        refine Plan.assign_bool rfl rfl ?_
        refine Plan.nil ?_
        refine hK59 _ _ ?_; clear hK59
        refine W.seq_k fun K60 hK60 => ?_
        refine W.regionT [(0, true), (1, true), (2, true)] (by kernel_rfl) ?_
        refine Plan.move_int rfl rfl ?_
        refine Plan.shlU .u8 (X := a41) (c := 1) rfl rfl rfl ?_
        refine Plan.assign_int rfl rfl ?_
        refine Plan.nil ?_
        refine hK60 _ _ ?_; clear hK60
        refine W.seq_k fun K61 hK61 => ?_
        refine W.regionT [(0, true)] (by kernel_rfl) ?_
        refine Plan.move_bool rfl rfl ?_
        refine Plan.nil ?_
        refine hK61 _ _ ?_; clear hK61
        by_cases hc62 : (a41 &&& (128#8)) ≠ 0#8
        ·
          replace hR := ifT hR hc62
          refine W.condT (congrArg Value.bool (decide_eq_true hc62)) ?_
          refine W.regionT [(0, true), (1, true), (2, true)] (by kernel_rfl) ?_
          refine Plan.move_int rfl rfl ?_
          refine Plan.xorU .u8 (X := (a41 <<< 1)) (Y := 27#8) rfl rfl rfl ?_
          refine Plan.assign_int rfl rfl ?_
          refine Plan.nil ?_
          refine blockR_norm ?_
          refine hK50 _ _ ?_; clear hK50
          refine W.regionT [(0, true), (1, true), (2, true)] (by kernel_rfl) ?_
          refine Plan.move_int rfl rfl ?_
          refine Plan.shrU .u8 (X := b42) (c := 1) rfl rfl rfl ?_
          refine Plan.assign_int rfl rfl ?_
          refine Plan.nil ?_
          exact iterR_norm ⟨_, hR, (EnvHas.cons rfl (EnvHas.cons rfl (EnvHas.cons rfl EnvHas.nil))), h58⟩
        ·
          replace hR := ifF hR hc62
          refine W.condF (congrArg Value.bool (decide_eq_false hc62)) ?_
          refine W.skip ?_
          refine blockR_norm ?_
          refine hK50 _ _ ?_; clear hK50
          refine W.regionT [(0, true), (1, true), (2, true)] (by kernel_rfl) ?_
          refine Plan.move_int rfl rfl ?_
          refine Plan.shrU .u8 (X := b42) (c := 1) rfl rfl rfl ?_
          refine Plan.assign_int rfl rfl ?_
          refine Plan.nil ?_
          exact iterR_norm ⟨_, hR, (EnvHas.cons rfl (EnvHas.cons rfl (EnvHas.cons rfl EnvHas.nil))), h58⟩
    ·
      replace hR := ifF hR hc49
      refine W.condF (congrArg Value.bool (decide_eq_false hc49)) ?_
      refine W.exit (thenR_exit (iterR_exit (blockR_here ?_)))
      exact ⟨out43, (hx45 _ hR).symm, (EnvHas.cons rfl EnvHas.nil), h46⟩
  ·
    rintro ev63 wl63 ⟨y_out44, hy63, he63, h63⟩
    obtain ⟨ev63, rfl⟩ := he63.open
    subst hy63
    replace hR := hR045
    refine hK5 _ _ ?_; clear hK5
    refine W.seq_k fun K64 hK64 => ?_
    refine W.regionT [(0, true), (1, true)] (by kernel_rfl) ?_
    refine Plan.move_int rfl rfl ?_
    refine Plan.assign_int rfl rfl ?_
    refine Plan.nil ?_
    refine hK64 _ _ ?_; clear hK64
    refine W.ret (finR_ret ?_)
    subst r
    refine RetOk.mk (.tmp_int rfl .nil) ?_
    exact ⟨rfl, h63⟩


set_option maxRecDepth 8000 in
set_option maxHeartbeats 1000000 in
theorem aes_fill_ok {B : Nat} {w0 w : World} {L : List Rg}  {r : ((Nat → BitVec 8) × (Nat → BitVec 8) × (Nat → BitVec 8))} (hR : aes_fill r) (HST : St B w0 (L) w) :
    Calls Tryd.prog 33 #[] w fun e w' => e = .returned (AG [(256, fun q => VU .u8 (r.1 q)), (256, fun q => VU .u8 (r.2.1 q)), (256, fun q => VU .u8 (r.2.2 q))]) ∧ St B w0 (L) w' := by
  refine W.enter 32 Tryd.func33 rfl rfl rfl ?_
  unfold aes_fill at hR
  refine W.seq_k fun K1 hK1 => ?_
  refine W.regionT [(0, false)] (by kernel_rfl) ?_
  refine Plan.alloc HST rfl FAes.z66 PIn.nil fun b2 w2 hb2 h2 => ?_
  simp only [rngs, Nat.zero_add, Nat.reduceAdd, List.cons_append, List.nil_append] at h2
  refine Plan.nil ?_
  refine hK1 _ _ ?_; clear hK1
  refine W.seq_k fun K3 hK3 => ?_
  refine W.regionT [(0, true), (1, false), (2, false)] (by kernel_rfl) ?_
  refine Plan.buildZ FAes.row66 FAes.z66 rfl ?_
  refine Plan.alloc h2 rfl FAes.z66 PIn.nil fun b4 w4 hb4 h4 => ?_
  simp only [rngs, Nat.zero_add, Nat.reduceAdd, List.cons_append, List.nil_append] at h4
  refine Plan.storeP (ps := [(256, fun q => VU .u8 ((fun _ => 0#8) q)), (256, fun q => VU .u8 ((fun _ => 0#8) q)), (256, fun q => VU .u8 ((fun _ => 0#8) q))]) h4 rfl rfl rfl (.cons 0 rfl (.cons 1 rfl (.cons 2 rfl .nil))) ⟨fun _ _ => rfl, fun _ _ => rfl, fun _ _ => rfl, trivial⟩ FAes.sz66 (EffO.keep PIn.nil) fun w5 h5 => ?_
  simp only [List.cons_append, List.nil_append, List.set_cons_zero, List.set_cons_succ] at h5
  refine Plan.nil ?_
  refine hK3 _ _ ?_; clear hK3
  refine W.seq_k fun K6 hK6 => ?_
  refine W.regionT [(0, true), (1, true)] (by kernel_rfl) ?_
  refine Plan.assign_int rfl rfl ?_
  refine Plan.assign_int rfl rfl ?_
  refine Plan.nil ?_
  refine hK6 _ _ ?_; clear hK6
  refine W.seq_k fun K7 hK7 => ?_
  refine W.regionT [(0, true), (1, true)] (by kernel_rfl) ?_
  refine Plan.makeF rfl rfl ?_
  refine Plan.assign rfl rfl ?_
  refine Plan.nil ?_
  refine hK7 _ _ ?_; clear hK7
  refine W.seq_k fun K8 hK8 => ?_
  refine W.regionT [(0, true), (1, false)] (by kernel_rfl) ?_
  refine Plan.move rfl rfl ?_
  obtain ⟨x_10, x_11, hr9, hR⟩ := hR
  refine Plan.callF (f := 49) (vs := [VU .u8 (0#8), VU .u8 (0#8)]) (cs := [.pointer (some ⟨b4, 0, none⟩)]) rfl rfl FAes.call49 rfl (aes_fill_1_ok  hr9 h5) ?_
  rintro _ w12 ⟨rfl, h12⟩
  refine ⟨_, rfl, .inl ⟨PIn.keep PIn.nil h12, ?_⟩⟩
  refine Plan.nil ?_
  refine hK8 _ _ ?_; clear hK8
  refine W.seq_k fun K13 hK13 => ?_
  refine W.seq_k fun K14 hK14 => ?_
  refine W.regionT [(0, true)] (by kernel_rfl) ?_
  refine Plan.move_int rfl rfl ?_
  refine Plan.nil ?_
  refine hK14 _ _ ?_; clear hK14
  obtain ⟨m55, m56, hI57, hR057⟩ := hR
  refine W.cutN (fun e w => ∃ y_m55 : Nat → BitVec 8, ∃ y_m56 : Nat → BitVec 8, (m55, m56) = (y_m55, y_m56) ∧ EnvHas e [(0, .pointer (some ⟨b2, 0, none⟩)), (1, .pointer (some ⟨b4, 0, none⟩))] ∧ St B w0 (⟨some b4, 0, 256, fun q => VU .u8 (y_m55 q), true⟩ :: ⟨some b4, 256, 256, fun q => VU .u8 (y_m56 q), true⟩ :: ⟨some b4, 512, 256, fun q => VU .u8 ((fun _ => 0#8) q), true⟩ :: ⟨some b2, 0, 256, fun q => VU .u8 ((fun _ => 0#8) q), true⟩ :: ⟨some b2, 256, 256, fun q => VU .u8 ((fun _ => 0#8) q), true⟩ :: ⟨some b2, 512, 256, fun q => VU .u8 ((fun _ => 0#8) q), true⟩ :: L) w) ?_ ?_
  ·
    refine W.block ?_
    refine W.iter hI57 (fun (s57 : ((BitVec 8) × (BitVec 8) × Nat × (Nat → BitVec 8) × (Nat → BitVec 8))) e w => EnvHas e [(0, .pointer (some ⟨b2, 0, none⟩)), (1, .pointer (some ⟨b4, 0, none⟩)), (2, VU .u8 s57.1), (3, VU .u8 s57.2.1), (4, .func (.func 49) #[] #[.pointer (some ⟨b4, 0, none⟩)]), (10, VN s57.2.2.1)] ∧ St B w0 (⟨some b4, 0, 256, fun q => VU .u8 (s57.2.2.2.1 q), true⟩ :: ⟨some b4, 256, 256, fun q => VU .u8 (s57.2.2.2.2 q), true⟩ :: ⟨some b4, 512, 256, fun q => VU .u8 ((fun _ => 0#8) q), true⟩ :: ⟨some b2, 0, 256, fun q => VU .u8 ((fun _ => 0#8) q), true⟩ :: ⟨some b2, 256, 256, fun q => VU .u8 ((fun _ => 0#8) q), true⟩ :: ⟨some b2, 512, 256, fun q => VU .u8 ((fun _ => 0#8) q), true⟩ :: L) w) ⟨(EnvHas.cons rfl (EnvHas.cons rfl (EnvHas.cons rfl (EnvHas.cons rfl (EnvHas.cons rfl (EnvHas.cons rfl EnvHas.nil)))))), h12⟩ ?_
    rintro ⟨p50, q_51, t52, m53, m54⟩ o57 hR hx57 ev58 wl58 ⟨he58, h58⟩
    obtain ⟨ev58, rfl⟩ := he58.open
    unfold aes_fill_l0 at hR
    refine W.seq_k fun K59 hK59 => ?_
    refine W.regionT [(0, true)] (by kernel_rfl) ?_
    refine Plan.cmpP (a := (((t52 : Nat) : Int) : Int)) (b := (255 : Int)) (p := t52 < 255) rfl rfl rfl rfl icmp_ltN ?_
    refine Plan.nil ?_
    refine hK59 _ _ ?_; clear hK59
    refine W.seq_k fun K60 hK60 => ?_
    by_cases hc61 : t52 < 255
    ·
      replace hR := ifT hR hc61
      refine W.condT (congrArg Value.bool (decide_eq_true hc61)) ?_
      refine W.skip ?_
      refine hK60 _ _ ?_; clear hK60
      refine W.seq_k fun K62 hK62 => ?_
      refine W.block ?_
      refine W.seq_k fun K63 hK63 => ?_
      refine W.regionT [(0, true), (1, true), (2, true), (3, false)] (by kernel_rfl) ?_
      refine Plan.move rfl rfl ?_
      refine Plan.move_int rfl rfl ?_
      refine Plan.move_int rfl rfl ?_
      obtain ⟨x_65, x_66, hr64, hR⟩ := hR
      refine Plan.callF (f := 49) (vs := [VU .u8 p50, VU .u8 q_51]) (cs := [.pointer (some ⟨b4, 0, none⟩)]) rfl rfl FAes.call49 rfl (aes_fill_1_ok  hr64 h58) ?_
      rintro _ w67 ⟨rfl, h67⟩
      refine ⟨_, rfl, .inl ⟨PIn.keep PIn.nil h67, ?_⟩⟩
      refine Plan.nil ?_
      refine hK63 _ _ ?_; clear hK63
      refine W.regionT [(0, true), (1, false), (2, true), (3, false), (4, true), (5, true)] (by kernel_rfl) ?_
      refine Plan.move_int rfl rfl ?_
      obtain ⟨x_69, hr68, hR⟩ := hR
      refine Plan.call (vs := [VU .u8 p50, VU .u8 (3#8)]) rfl FAes.call50 rfl (aes_Mul_ok  hr68 h67) ?_
      rintro _ w70 ⟨rfl, h70⟩
      refine ⟨_, rfl, .inl ⟨PIn.keep PIn.nil h70, ?_⟩⟩
      refine Plan.move_int rfl rfl ?_
      obtain ⟨x_72, hr71, hR⟩ := hR
      refine Plan.call (vs := [VU .u8 q_51, VU .u8 (246#8)]) rfl FAes.call50 rfl (aes_Mul_ok  hr71 h70) ?_
      rintro _ w73 ⟨rfl, h73⟩
      refine ⟨_, rfl, .inl ⟨PIn.keep PIn.nil h73, ?_⟩⟩
      refine Plan.assign_int rfl rfl ?_
      refine Plan.assign_int rfl rfl ?_
      refine Plan.nil ?_
      refine blockR_norm ?_
      refine hK62 _ _ ?_; clear hK62
      refine W.regionT [(0, true), (1, true)] (by kernel_rfl) ?_
      refine Plan.addN (a := t52) (b := 1) rfl rfl rfl (by omega) ?_
      refine Plan.move_int rfl rfl ?_
      refine Plan.nil ?_
      exact iterR_norm ⟨_, hR, (EnvHas.cons rfl (EnvHas.cons rfl (EnvHas.cons rfl (EnvHas.cons rfl (EnvHas.cons rfl (EnvHas.cons rfl EnvHas.nil)))))), h73⟩
    ·
      replace hR := ifF hR hc61
      refine W.condF (congrArg Value.bool (decide_eq_false hc61)) ?_
      refine W.exit (thenR_exit (iterR_exit (blockR_here ?_)))
      exact ⟨m53, m54, (hx57 _ hR).symm, (EnvHas.cons rfl (EnvHas.cons rfl EnvHas.nil)), h58⟩
  ·
    rintro ev74 wl74 ⟨y_m55, y_m56, hy74, he74, h74⟩
    obtain ⟨ev74, rfl⟩ := he74.open
    cases hy74
    replace hR := hR057
    refine hK13 _ _ ?_; clear hK13
    refine W.seq_k fun K75 hK75 => ?_
    refine W.seq_k fun K76 hK76 => ?_
    refine W.regionT [(0, true)] (by kernel_rfl) ?_
    refine Plan.move_int rfl rfl ?_
    refine Plan.nil ?_
    refine hK76 _ _ ?_; clear hK76
    obtain ⟨m99, hI100, hR0100⟩ := hR
    refine W.cutN (fun e w => ∃ y_m99 : Nat → BitVec 8, m99 = y_m99 ∧ EnvHas e [(0, .pointer (some ⟨b2, 0, none⟩)), (1, .pointer (some ⟨b4, 0, none⟩))] ∧ St B w0 (⟨some b4, 0, 256, fun q => VU .u8 (m55 q), true⟩ :: ⟨some b4, 256, 256, fun q => VU .u8 (m56 q), true⟩ :: ⟨some b4, 512, 256, fun q => VU .u8 (y_m99 q), true⟩ :: ⟨some b2, 0, 256, fun q => VU .u8 ((fun _ => 0#8) q), true⟩ :: ⟨some b2, 256, 256, fun q => VU .u8 ((fun _ => 0#8) q), true⟩ :: ⟨some b2, 512, 256, fun q => VU .u8 ((fun _ => 0#8) q), true⟩ :: L) w) ?_ ?_
    ·
      refine W.block ?_
      refine W.iter hI100 (fun (s100 : (Nat × (Nat → BitVec 8))) e w => EnvHas e [(0, .pointer (some ⟨b2, 0, none⟩)), (1, .pointer (some ⟨b4, 0, none⟩)), (21, VN s100.1)] ∧ St B w0 (⟨some b4, 0, 256, fun q => VU .u8 (m55 q), true⟩ :: ⟨some b4, 256, 256, fun q => VU .u8 (m56 q), true⟩ :: ⟨some b4, 512, 256, fun q => VU .u8 (s100.2 q), true⟩ :: ⟨some b2, 0, 256, fun q => VU .u8 ((fun _ => 0#8) q), true⟩ :: ⟨some b2, 256, 256, fun q => VU .u8 ((fun _ => 0#8) q), true⟩ :: ⟨some b2, 512, 256, fun q => VU .u8 ((fun _ => 0#8) q), true⟩ :: L) w) ⟨(EnvHas.cons rfl (EnvHas.cons rfl (EnvHas.cons rfl EnvHas.nil))), h74⟩ ?_
      rintro ⟨t97, m98⟩ o100 hR hx100 ev101 wl101 ⟨he101, h101⟩
      obtain ⟨ev101, rfl⟩ := he101.open
      unfold aes_fill_l1 at hR
      refine W.seq_k fun K102 hK102 => ?_
      refine W.regionT [(0, true)] (by kernel_rfl) ?_
      refine Plan.cmpP (a := (((t97 : Nat) : Int) : Int)) (b := (256 : Int)) (p := t97 < 256) rfl rfl rfl rfl icmp_ltN ?_
      refine Plan.nil ?_
      refine hK102 _ _ ?_; clear hK102
      refine W.seq_k fun K103 hK103 => ?_
      by_cases hc104 : t97 < 256
      ·
        replace hR := ifT hR hc104
        refine W.condT (congrArg Value.bool (decide_eq_true hc104)) ?_
        refine W.skip ?_
        refine hK103 _ _ ?_; clear hK103
        refine W.seq_k fun K105 hK105 => ?_
        refine W.block ?_
        refine W.seq_k fun K106 hK106 => ?_
        refine W.regionT [(0, true), (1, true)] (by kernel_rfl) ?_
        refine Plan.move_int rfl rfl ?_
        refine Plan.assign_int rfl rfl ?_
        refine Plan.nil ?_
        refine hK106 _ _ ?_; clear hK106
        refine W.regionT [(0, true), (1, true), (2, true), (3, false), (4, true), (5, true), (6, false)] (by kernel_rfl) ?_
        refine Plan.move_int rfl rfl ?_
        refine Plan.move_int rfl rfl ?_
        refine Plan.convNU .u8 (a := t97) FAes.u5 FAes.some3 rfl rfl ?_
        obtain ⟨x_108, hr107, hR⟩ := hR
        refine Plan.call (vs := [VU .u8 (BitVec.ofNat 8 t97), VU .u8 (2#8)]) rfl FAes.call50 rfl (aes_Mul_ok  hr107 h101) ?_
        rintro _ w109 ⟨rfl, h109⟩
        refine ⟨_, rfl, .inl ⟨PIn.keep PIn.nil h109, ?_⟩⟩
        refine Plan.fieldAddr 512 FAes.fld66_2 rfl rfl ?_
        refine Plan.idxArr1 (j := t97) FAes.arr64 rfl rfl rfl (by omega) ?_
        refine Plan.storeU (j := t97) (X := x_108) h109 2 rfl rfl rfl rfl (by omega) FAes.sz5 rfl fun w110 h110 => ?_
        simp only [List.cons_append, List.nil_append, List.set_cons_zero, List.set_cons_succ] at h110
        refine Plan.nil ?_
        refine blockR_norm ?_
        refine hK105 _ _ ?_; clear hK105
        refine W.regionT [(0, true), (1, true)] (by kernel_rfl) ?_
        refine Plan.addN (a := t97) (b := 1) rfl rfl rfl (by omega) ?_
        refine Plan.move_int rfl rfl ?_
        refine Plan.nil ?_
        exact iterR_norm ⟨_, hR, (EnvHas.cons rfl (EnvHas.cons rfl (EnvHas.cons rfl EnvHas.nil))), h110⟩
      ·
        replace hR := ifF hR hc104
        refine W.condF (congrArg Value.bool (decide_eq_false hc104)) ?_
        refine W.exit (thenR_exit (iterR_exit (blockR_here ?_)))
        exact ⟨m98, (hx100 _ hR).symm, (EnvHas.cons rfl (EnvHas.cons rfl EnvHas.nil)), h101⟩
    ·
      rintro ev111 wl111 ⟨y_m99, hy111, he111, h111⟩
      obtain ⟨ev111, rfl⟩ := he111.open
      subst hy111
      replace hR := hR0100
      refine hK75 _ _ ?_; clear hK75
      refine W.seq_k fun K112 hK112 => ?_
      refine W.regionT [(0, true), (1, false)] (by kernel_rfl) ?_
      refine Plan.loadA h111 rfl rfl (.cons 0 rfl (.cons 1 rfl (.cons 2 rfl .nil))) FAes.agg66 ?_
      refine Plan.storeP (ps := [(256, fun q => VU .u8 (m55 q)), (256, fun q => VU .u8 (m56 q)), (256, fun q => VU .u8 (m99 q))]) h111 rfl rfl rfl (.cons 3 rfl (.cons 4 rfl (.cons 5 rfl .nil))) ⟨fun _ _ => rfl, fun _ _ => rfl, fun _ _ => rfl, trivial⟩ FAes.sz66 (EffO.wait rfl) fun w113 h113 => ?_
      simp only [List.cons_append, List.nil_append, List.set_cons_zero, List.set_cons_succ] at h113
      refine Plan.nil ?_
      refine hK112 _ _ ?_; clear hK112
      refine W.ret (finR_ret ?_)
      have h114 := St.pickT (C := [_, _, _, _, _, _]) h113 [] (by decide)
      simp only [pick, List.filterMap_cons, List.filterMap_nil, List.getElem?_cons_zero, List.getElem?_cons_succ, List.cons_append, List.nil_append] at h114
      subst r
      refine RetOk.mk (.agg h113 rfl (.cons 3 rfl (.cons 4 rfl (.cons 5 rfl .nil))) FAes.agg66 .nil) ?_
      exact ⟨rfl, h114⟩


set_option maxRecDepth 8000 in
set_option maxHeartbeats 1000000 in
theorem aes_Cipher_expand_ok {B : Nat} {w0 w : World} {L : List Rg} {bc1 : Nat} {ckeys2 : Nat → BitVec 8} {ct3 : Nat → BitVec 8} {ct4 : Nat → BitVec 8} {ct5 : Nat → BitVec 8} {key6 : List Byte} {akey6 : Option Addr} {nkey6 ckey6 ikey6 : Nat} (hkey6 : Bx L ikey6 akey6 nkey6 ckey6 key6) {r : (Nat → BitVec 8)} (hR : aes_Cipher_expand ckeys2 ct3 ct4 ct5 key6 r) (HST : St B w0 (⟨some bc1, 0, 240, fun q => VU .u8 (ckeys2 q), true⟩ :: ⟨some bc1, 240, 256, fun q => VU .u8 (ct3 q), true⟩ :: ⟨some bc1, 496, 256, fun q => VU .u8 (ct4 q), true⟩ :: ⟨some bc1, 752, 256, fun q => VU .u8 (ct5 q), true⟩ :: L) w) :
    Calls Tryd.prog 34 #[.pointer (some ⟨bc1, 0, none⟩), .slice akey6 nkey6 ckey6] w fun e w' => e = .returned (.tuple #[]) ∧ St B w0 (⟨some bc1, 0, 240, fun q => VU .u8 (r q), true⟩ :: ⟨some bc1, 240, 256, fun q => VU .u8 (ct3 q), true⟩ :: ⟨some bc1, 496, 256, fun q => VU .u8 (ct4 q), true⟩ :: ⟨some bc1, 752, 256, fun q => VU .u8 (ct5 q), true⟩ :: L) w' := by
  refine W.enter 141 Tryd.func34 rfl rfl rfl ?_
  unfold aes_Cipher_expand at hR
  have ekey6 := hkey6.hl; subst ekey6
  refine W.seq_k fun K7 hK7 => ?_
  refine W.regionT [(0, false)] (by kernel_rfl) ?_
  refine Plan.alloc HST rfl FAes.z88 PIn.nil fun b8 w8 hb8 h8 => ?_
  simp only [rngs, Nat.zero_add, Nat.reduceAdd, List.cons_append, List.nil_append] at h8
  refine Plan.nil ?_
  refine hK7 _ _ ?_; clear hK7
  refine W.seq_k fun K9 hK9 => ?_
  refine W.regionT [(0, true)] (by kernel_rfl) ?_
  refine Plan.assign_int rfl rfl ?_
  refine Plan.nil ?_
  refine hK9 _ _ ?_; clear hK9
  refine W.seq_k fun K10 hK10 => ?_
  refine W.seq_k fun K11 hK11 => ?_
  refine W.regionT [(0, true)] (by kernel_rfl) ?_
  refine Plan.move_int rfl rfl ?_
  refine Plan.nil ?_
  refine hK11 _ _ ?_; clear hK11
  obtain ⟨m177, hI178, hR0178⟩ := hR
  refine W.cutN (fun e w => ∃ y_m177 : Nat → BitVec 8, m177 = y_m177 ∧ EnvHas e [(0, .pointer (some ⟨bc1, 0, none⟩)), (4, .pointer (some ⟨b8, 0, none⟩))] ∧ St B w0 (⟨some b8, 0, 240, fun q => VU .u8 (y_m177 q), true⟩ :: ⟨some bc1, 0, 240, fun q => VU .u8 (ckeys2 q), true⟩ :: ⟨some bc1, 240, 256, fun q => VU .u8 (ct3 q), true⟩ :: ⟨some bc1, 496, 256, fun q => VU .u8 (ct4 q), true⟩ :: ⟨some bc1, 752, 256, fun q => VU .u8 (ct5 q), true⟩ :: L) w) ?_ ?_
  ·
    refine W.block ?_
    refine W.iter hI178 (fun (s178 : ((BitVec 8) × Nat × (Nat → BitVec 8))) e w => EnvHas e [(0, .pointer (some ⟨bc1, 0, none⟩)), (1, .slice akey6 key6.length ckey6), (4, .pointer (some ⟨b8, 0, none⟩)), (5, VU .u8 s178.1), (11, VN s178.2.1)] ∧ St B w0 (⟨some b8, 0, 240, fun q => VU .u8 (s178.2.2 q), true⟩ :: ⟨some bc1, 0, 240, fun q => VU .u8 (ckeys2 q), true⟩ :: ⟨some bc1, 240, 256, fun q => VU .u8 (ct3 q), true⟩ :: ⟨some bc1, 496, 256, fun q => VU .u8 (ct4 q), true⟩ :: ⟨some bc1, 752, 256, fun q => VU .u8 (ct5 q), true⟩ :: L) w) ⟨(EnvHas.cons rfl (EnvHas.cons rfl (EnvHas.cons rfl (EnvHas.cons rfl (EnvHas.cons rfl EnvHas.nil))))), h8⟩ ?_
    rintro ⟨power174, t175, m176⟩ o178 hR hx178 ev179 wl179 ⟨he179, h179⟩
    obtain ⟨ev179, rfl⟩ := he179.open
    unfold aes_Cipher_expand_l0 at hR
    refine W.seq_k fun K180 hK180 => ?_
    refine W.regionT [(0, true)] (by kernel_rfl) ?_
    refine Plan.cmpP (a := (((t175 : Nat) : Int) : Int)) (b := (60 : Int)) (p := t175 < 60) rfl rfl rfl rfl icmp_ltN ?_
    refine Plan.nil ?_
    refine hK180 _ _ ?_; clear hK180
    refine W.seq_k fun K181 hK181 => ?_
    by_cases hc182 : t175 < 60
    ·
      replace hR := ifT hR hc182
      refine W.condT (congrArg Value.bool (decide_eq_true hc182)) ?_
      refine W.skip ?_
      refine hK181 _ _ ?_; clear hK181
      refine W.seq_k fun K183 hK183 => ?_
      refine W.block ?_
      refine W.seq_k fun K184 hK184 => ?_
      refine W.regionT [(0, true), (1, true)] (by kernel_rfl) ?_
      refine Plan.move_int rfl rfl ?_
      refine Plan.assign_int rfl rfl ?_
      refine Plan.nil ?_
      refine hK184 _ _ ?_; clear hK184
      refine W.seq_k fun K185 hK185 => ?_
      refine W.seq_k fun K186 hK186 => ?_
      refine W.regionT [(0, true), (1, true)] (by kernel_rfl) ?_
      refine Plan.move_int rfl rfl ?_
      refine Plan.cmpP (a := (((t175 : Nat) : Int) : Int)) (b := (8 : Int)) (p := t175 < 8) rfl rfl rfl rfl icmp_ltN ?_
      refine Plan.nil ?_
      refine hK186 _ _ ?_; clear hK186
      by_cases hc187 : t175 < 8
      ·
        replace hR := ifT hR hc187
        refine W.condT (congrArg Value.bool (decide_eq_true hc187)) ?_
        refine W.seq_k fun K188 hK188 => ?_
        refine W.regionD FAes.mixed [(0, true), (1, true), (2, true), (3, true), (4, true), (5, true), (6, true), (7, false)] (by kernel_rfl) ?_
        have h189 := h179.drew
        refine Plan.move_int rfl rfl ?_
        refine Plan.idxArrO (j := t175) (o' := 0 + (t175 * 4)) FAes.arr88 rfl rfl rfl (by omega) (by omega) ?_
        refine Plan.slArrO (lo := 0) (hi := 4) (m := 4) (c := 4) (o' := 0 + (t175 * 4)) FAes.arr87 rfl rfl rfl rfl (by omega) (by omega) (by omega) (by omega) ?_
        refine Plan.move_slice rfl rfl ?_
        refine Plan.move_int rfl rfl ?_
        refine Plan.mulN (a := 4) (b := t175) rfl rfl rfl (by omega) ?_
        obtain ⟨hc190, hR⟩ := hR
        refine Plan.slV (lo := (4 * t175)) (hi := key6.length) hkey6 FAes.sl24 rfl rfl ⟨_, rfl⟩ rfl hc190 fun a191 c191 hv191 => ?_
        refine Plan.copyB (jd := t175 * 4) (X := (seg key6 (4 * t175) key6.length)) h189 0 (min ((seg key6 (4 * t175) key6.length).length) 4) FAes.sl24 rfl rfl rfl rfl ((hv191.app [_, _, _, _, _]).bs' 0 rfl) (fun _ => ⟨_, rfl, rfl⟩) rfl rfl (by omega) (EffO.keep PIn.nil) fun w192 h192 => ?_
        simp only [List.cons_append, List.nil_append, List.set_cons_zero, List.set_cons_succ] at h192
        refine Plan.nil ?_
        refine hK188 _ _ ?_; clear hK188
        refine W.exit (thenR_exit (blockR_here ?_))
        refine hK183 _ _ ?_; clear hK183
        refine W.regionT [(0, true), (1, true)] (by kernel_rfl) ?_
        refine Plan.addN (a := t175) (b := 1) rfl rfl rfl (by omega) ?_
        refine Plan.move_int rfl rfl ?_
        refine Plan.nil ?_
        exact iterR_norm ⟨_, hR, (EnvHas.cons rfl (EnvHas.cons rfl (EnvHas.cons rfl (EnvHas.cons rfl (EnvHas.cons rfl EnvHas.nil))))), h192⟩
      ·
        replace hR := ifF hR hc187
        refine W.condF (congrArg Value.bool (decide_eq_false hc187)) ?_
        refine W.skip ?_
        refine hK185 _ _ ?_; clear hK185
        refine W.seq_k fun K193 hK193 => ?_
        refine W.regionT [(0, true), (1, true), (2, true), (3, true), (4, false), (5, false)] (by kernel_rfl) ?_
        refine Plan.move_int rfl rfl ?_
        refine Plan.subN (a := t175) (b := 1) rfl rfl rfl (by omega) ?_
        refine Plan.idxArrO (j := (t175 - 1)) (o' := 0 + ((t175 - 1) * 4)) FAes.arr88 rfl rfl rfl (by omega) (by omega) ?_
        refine Plan.loadSub (m' := 4) h179 0 ((t175 - 1) * 4) rfl rfl rfl rfl (by omega) FAes.agg87 ?_
        refine Plan.alloc h179 rfl FAes.z87 (PIn.cons 0 rfl PIn.nil) fun b194 w194 hb194 h194 => ?_
        simp only [rngs, Nat.zero_add, Nat.reduceAdd, List.cons_append, List.nil_append] at h194
        refine Plan.storeA (f' := fun q => VU .u8 ((fun q => m176 (((t175 - 1) * 4) + q)) q)) h194 0 rfl rfl rfl rfl (fun _ _ => rfl) FAes.sz87 rfl fun w195 h195 => ?_
        simp only [List.cons_append, List.nil_append, List.set_cons_zero, List.set_cons_succ] at h195
        refine Plan.nil ?_
        refine hK193 _ _ ?_; clear hK193
        refine W.seq_k fun K196 hK196 => ?_
        obtain ⟨power210, m211, hX212, hR0212⟩ := hR
        refine W.cutN (fun e w => ∃ y_power210 : BitVec 8, ∃ y_m211 : Nat → BitVec 8, (power210 = y_power210 ∧ m211 = y_m211) ∧ EnvHas e [(0, .pointer (some ⟨bc1, 0, none⟩)), (1, .slice akey6 key6.length ckey6), (4, .pointer (some ⟨b8, 0, none⟩)), (5, VU .u8 y_power210), (6, VN t175), (7, .pointer (some ⟨b194, 0, none⟩)), (11, VN t175)] ∧ St B w0 (⟨some b194, 0, 4, fun q => VU .u8 (y_m211 q), true⟩ :: ⟨some b8, 0, 240, fun q => VU .u8 (m176 q), true⟩ :: ⟨some bc1, 0, 240, fun q => VU .u8 (ckeys2 q), true⟩ :: ⟨some bc1, 240, 256, fun q => VU .u8 (ct3 q), true⟩ :: ⟨some bc1, 496, 256, fun q => VU .u8 (ct4 q), true⟩ :: ⟨some bc1, 752, 256, fun q => VU .u8 (ct5 q), true⟩ :: L) w) ?_ ?_
        ·
          replace hR := hX212
          refine W.seq_k fun K213 hK213 => ?_
          refine W.regionT [(0, true), (1, true)] (by kernel_rfl) ?_
          refine Plan.move_int rfl rfl ?_
          refine Plan.remN (a := t175) (b := 8) rfl rfl rfl (by omega) ?_
          refine Plan.nil ?_
          refine hK213 _ _ ?_; clear hK213
          refine W.block ?_
          refine W.seq_k fun K214 hK214 => ?_
          refine W.regionT [(0, true), (1, true)] (by kernel_rfl) ?_
          refine Plan.cmpP (a := ((((t175 % 8) : Nat) : Int) : Int)) (b := (0 : Int)) (p := (t175 % 8) = 0) rfl rfl rfl rfl icmp_eqN ?_
          refine Plan.assign_bool rfl rfl ?_
          refine Plan.nil ?_
          refine hK214 _ _ ?_; clear hK214
          by_cases hc215 : (t175 % 8) = 0
          ·
            replace hR := ifT hR hc215
            refine W.condT (congrArg Value.bool (decide_eq_true hc215)) ?_
            refine W.seq_k fun K216 hK216 => ?_
            refine W.regionD FAes.mixed [(0, true), (1, true), (2, true), (3, true), (4, true), (5, true), (6, true), (7, true), (8, true), (9, true), (10, true), (11, true), (12, true), (13, true), (14, true), (15, true), (16, true), (17, true), (18, true), (19, true), (20, true), (21, true), (22, true), (23, true), (24, true), (25, true), (26, true), (27, true), (28, true), (29, true), (30, true), (31, true), (32, true), (33, true), (34, true), (35, false)] (by kernel_rfl) ?_
            have h217 := h195.drew
            refine Plan.move_ptr rfl rfl ?_
            refine Plan.idxArr1 (j := 1) FAes.arr87 rfl rfl rfl (by omega) ?_
            refine Plan.load1 (j := 1) h217 0 rfl rfl rfl (by omega) FAes.sc5 ?_
            refine Plan.nilCheck rfl rfl ?_
            refine Plan.fieldAddr 240 FAes.fld70_1 rfl rfl ?_
            refine Plan.fieldAddr0 FAes.fld66_0 rfl rfl ?_
            refine Plan.idxArr1 (j := ((fun q => m176 (((t175 - 1) * 4) + q)) 1).toNat) FAes.arr64 rfl rfl rfl ((fun q => m176 (((t175 - 1) * 4) + q)) 1).isLt ?_
            refine Plan.load1 (j := ((fun q => m176 (((t175 - 1) * 4) + q)) 1).toNat) h217 3 rfl rfl rfl (by omega) FAes.sc5 ?_
            refine Plan.move_int rfl rfl ?_
            refine Plan.xorU .u8 (X := (ct3 (((fun q => m176 (((t175 - 1) * 4) + q)) 1).toNat))) (Y := power174) rfl rfl rfl ?_
            refine Plan.move_ptr rfl rfl ?_
            refine Plan.idxArr1 (j := 2) FAes.arr87 rfl rfl rfl (by omega) ?_
            refine Plan.load1 (j := 2) h217 0 rfl rfl rfl (by omega) FAes.sc5 ?_
            refine Plan.nilCheck rfl rfl ?_
            refine Plan.fieldAddr 240 FAes.fld70_1 rfl rfl ?_
            refine Plan.fieldAddr0 FAes.fld66_0 rfl rfl ?_
            refine Plan.idxArr1 (j := ((fun q => m176 (((t175 - 1) * 4) + q)) 2).toNat) FAes.arr64 rfl rfl rfl ((fun q => m176 (((t175 - 1) * 4) + q)) 2).isLt ?_
            refine Plan.load1 (j := ((fun q => m176 (((t175 - 1) * 4) + q)) 2).toNat) h217 3 rfl rfl rfl (by omega) FAes.sc5 ?_
            refine Plan.move_ptr rfl rfl ?_
            refine Plan.idxArr1 (j := 3) FAes.arr87 rfl rfl rfl (by omega) ?_
            refine Plan.load1 (j := 3) h217 0 rfl rfl rfl (by omega) FAes.sc5 ?_
            refine Plan.nilCheck rfl rfl ?_
            refine Plan.fieldAddr 240 FAes.fld70_1 rfl rfl ?_
            refine Plan.fieldAddr0 FAes.fld66_0 rfl rfl ?_
            refine Plan.idxArr1 (j := ((fun q => m176 (((t175 - 1) * 4) + q)) 3).toNat) FAes.arr64 rfl rfl rfl ((fun q => m176 (((t175 - 1) * 4) + q)) 3).isLt ?_
            refine Plan.load1 (j := ((fun q => m176 (((t175 - 1) * 4) + q)) 3).toNat) h217 3 rfl rfl rfl (by omega) FAes.sc5 ?_
            refine Plan.move_ptr rfl rfl ?_
            refine Plan.idxArr1 (j := 0) FAes.arr87 rfl rfl rfl (by omega) ?_
            refine Plan.load1 (j := 0) h217 0 rfl rfl rfl (by omega) FAes.sc5 ?_
            refine Plan.nilCheck rfl rfl ?_
            refine Plan.fieldAddr 240 FAes.fld70_1 rfl rfl ?_
            refine Plan.fieldAddr0 FAes.fld66_0 rfl rfl ?_
            refine Plan.idxArr1 (j := ((fun q => m176 (((t175 - 1) * 4) + q)) 0).toNat) FAes.arr64 rfl rfl rfl ((fun q => m176 (((t175 - 1) * 4) + q)) 0).isLt ?_
            refine Plan.load1 (j := ((fun q => m176 (((t175 - 1) * 4) + q)) 0).toNat) h217 3 rfl rfl rfl (by omega) FAes.sc5 ?_
            refine Plan.buildArr (ps := [(4, fun q => VU .u8 ((lit [((ct3 (((fun q => m176 (((t175 - 1) * 4) + q)) 1).toNat)) ^^^ power174), (ct3 (((fun q => m176 (((t175 - 1) * 4) + q)) 2).toNat)), (ct3 (((fun q => m176 (((t175 - 1) * 4) + q)) 3).toNat)), (ct3 (((fun q => m176 (((t175 - 1) * 4) + q)) 0).toNat))]) q))]) FAes.arr87 FAes.z87 rfl rfl rfl ?_
            refine Plan.storeA (f' := fun q => VU .u8 ((lit [((ct3 (((fun q => m176 (((t175 - 1) * 4) + q)) 1).toNat)) ^^^ power174), (ct3 (((fun q => m176 (((t175 - 1) * 4) + q)) 2).toNat)), (ct3 (((fun q => m176 (((t175 - 1) * 4) + q)) 3).toNat)), (ct3 (((fun q => m176 (((t175 - 1) * 4) + q)) 0).toNat))]) q)) h217 0 rfl rfl rfl rfl (fun _ _ => rfl) FAes.sz87 rfl fun w218 h218 => ?_
            simp only [List.cons_append, List.nil_append, List.set_cons_zero, List.set_cons_succ] at h218
            refine Plan.nil ?_
            refine hK216 _ _ ?_; clear hK216
            refine W.regionT [(0, true), (1, false), (2, true)] (by kernel_rfl) ?_
            refine Plan.move_int rfl rfl ?_
            obtain ⟨x_220, hr219, hR⟩ := hR
            refine Plan.call (vs := [VU .u8 power174, VU .u8 (2#8)]) rfl FAes.call50 rfl (aes_Mul_ok  hr219 h218) ?_
            rintro _ w221 ⟨rfl, h221⟩
            refine ⟨_, rfl, .inl ⟨PIn.keep PIn.nil h221, ?_⟩⟩
            refine Plan.assign_int rfl rfl ?_
            refine Plan.nil ?_
            refine blockR_norm ?_
            exact ⟨x_220, (lit [((ct3 (((fun q => m176 (((t175 - 1) * 4) + q)) 1).toNat)) ^^^ power174), (ct3 (((fun q => m176 (((t175 - 1) * 4) + q)) 2).toNat)), (ct3 (((fun q => m176 (((t175 - 1) * 4) + q)) 3).toNat)), (ct3 (((fun q => m176 (((t175 - 1) * 4) + q)) 0).toNat))]), hR, (EnvHas.cons rfl (EnvHas.cons rfl (EnvHas.cons rfl (EnvHas.cons rfl (EnvHas.cons rfl (EnvHas.cons rfl (EnvHas.cons rfl EnvHas.nil))))))), h221⟩
          ·
            replace hR := ifF hR hc215
            refine W.condF (congrArg Value.bool (decide_eq_false hc215)) ?_
            refine W.seq_k fun K222 hK222 => ?_
            refine W.regionT [(0, true), (1, true)] (by kernel_rfl) ?_
            refine Plan.cmpP (a := ((((t175 % 8) : Nat) : Int) : Int)) (b := (4 : Int)) (p := (t175 % 8) = 4) rfl rfl rfl rfl icmp_eqN ?_
            refine Plan.assign_bool rfl rfl ?_
            refine Plan.nil ?_
            refine hK222 _ _ ?_; clear hK222
            by_cases hc223 : (t175 % 8) = 4
            ·
              replace hR := ifT hR hc223
              refine W.condT (congrArg Value.bool (decide_eq_true hc223)) ?_
              refine W.regionD FAes.mixed [(0, true), (1, true), (2, true), (3, true), (4, true), (5, true), (6, true), (7, true), (8, true), (9, true), (10, true), (11, true), (12, true), (13, true), (14, true), (15, true), (16, true), (17, true), (18, true), (19, true), (20, true), (21, true), (22, true), (23, true), (24, true), (25, true), (26, true), (27, true), (28, true), (29, true), (30, true), (31, true), (32, true), (33, false)] (by kernel_rfl) ?_
              have h224 := h195.drew
              refine Plan.move_ptr rfl rfl ?_
              refine Plan.idxArr1 (j := 0) FAes.arr87 rfl rfl rfl (by omega) ?_
              refine Plan.load1 (j := 0) h224 0 rfl rfl rfl (by omega) FAes.sc5 ?_
              refine Plan.nilCheck rfl rfl ?_
              refine Plan.fieldAddr 240 FAes.fld70_1 rfl rfl ?_
              refine Plan.fieldAddr0 FAes.fld66_0 rfl rfl ?_
              refine Plan.idxArr1 (j := ((fun q => m176 (((t175 - 1) * 4) + q)) 0).toNat) FAes.arr64 rfl rfl rfl ((fun q => m176 (((t175 - 1) * 4) + q)) 0).isLt ?_
              refine Plan.load1 (j := ((fun q => m176 (((t175 - 1) * 4) + q)) 0).toNat) h224 3 rfl rfl rfl (by omega) FAes.sc5 ?_
              refine Plan.move_ptr rfl rfl ?_
              refine Plan.idxArr1 (j := 1) FAes.arr87 rfl rfl rfl (by omega) ?_
              refine Plan.load1 (j := 1) h224 0 rfl rfl rfl (by omega) FAes.sc5 ?_
              refine Plan.nilCheck rfl rfl ?_
              refine Plan.fieldAddr 240 FAes.fld70_1 rfl rfl ?_
              refine Plan.fieldAddr0 FAes.fld66_0 rfl rfl ?_
              refine Plan.idxArr1 (j := ((fun q => m176 (((t175 - 1) * 4) + q)) 1).toNat) FAes.arr64 rfl rfl rfl ((fun q => m176 (((t175 - 1) * 4) + q)) 1).isLt ?_
              refine Plan.load1 (j := ((fun q => m176 (((t175 - 1) * 4) + q)) 1).toNat) h224 3 rfl rfl rfl (by omega) FAes.sc5 ?_
              refine Plan.move_ptr rfl rfl ?_
              refine Plan.idxArr1 (j := 2) FAes.arr87 rfl rfl rfl (by omega) ?_
              refine Plan.load1 (j := 2) h224 0 rfl rfl rfl (by omega) FAes.sc5 ?_
              refine Plan.nilCheck rfl rfl ?_
              refine Plan.fieldAddr 240 FAes.fld70_1 rfl rfl ?_
              refine Plan.fieldAddr0 FAes.fld66_0 rfl rfl ?_
              refine Plan.idxArr1 (j := ((fun q => m176 (((t175 - 1) * 4) + q)) 2).toNat) FAes.arr64 rfl rfl rfl ((fun q => m176 (((t175 - 1) * 4) + q)) 2).isLt ?_
              refine Plan.load1 (j := ((fun q => m176 (((t175 - 1) * 4) + q)) 2).toNat) h224 3 rfl rfl rfl (by omega) FAes.sc5 ?_
              refine Plan.move_ptr rfl rfl ?_
              refine Plan.idxArr1 (j := 3) FAes.arr87 rfl rfl rfl (by omega) ?_
              refine Plan.load1 (j := 3) h224 0 rfl rfl rfl (by omega) FAes.sc5 ?_
              refine Plan.nilCheck rfl rfl ?_
              refine Plan.fieldAddr 240 FAes.fld70_1 rfl rfl ?_
              refine Plan.fieldAddr0 FAes.fld66_0 rfl rfl ?_
              refine Plan.idxArr1 (j := ((fun q => m176 (((t175 - 1) * 4) + q)) 3).toNat) FAes.arr64 rfl rfl rfl ((fun q => m176 (((t175 - 1) * 4) + q)) 3).isLt ?_
              refine Plan.load1 (j := ((fun q => m176 (((t175 - 1) * 4) + q)) 3).toNat) h224 3 rfl rfl rfl (by omega) FAes.sc5 ?_
              refine Plan.buildArr (ps := [(4, fun q => VU .u8 ((lit [(ct3 (((fun q => m176 (((t175 - 1) * 4) + q)) 0).toNat)), (ct3 (((fun q => m176 (((t175 - 1) * 4) + q)) 1).toNat)), (ct3 (((fun q => m176 (((t175 - 1) * 4) + q)) 2).toNat)), (ct3 (((fun q => m176 (((t175 - 1) * 4) + q)) 3).toNat))]) q))]) FAes.arr87 FAes.z87 rfl rfl rfl ?_
              refine Plan.storeA (f' := fun q => VU .u8 ((lit [(ct3 (((fun q => m176 (((t175 - 1) * 4) + q)) 0).toNat)), (ct3 (((fun q => m176 (((t175 - 1) * 4) + q)) 1).toNat)), (ct3 (((fun q => m176 (((t175 - 1) * 4) + q)) 2).toNat)), (ct3 (((fun q => m176 (((t175 - 1) * 4) + q)) 3).toNat))]) q)) h224 0 rfl rfl rfl rfl (fun _ _ => rfl) FAes.sz87 rfl fun w225 h225 => ?_
              simp only [List.cons_append, List.nil_append, List.set_cons_zero, List.set_cons_succ] at h225
              refine Plan.nil ?_
              refine blockR_norm ?_
              exact ⟨power174, (lit [(ct3 (((fun q => m176 (((t175 - 1) * 4) + q)) 0).toNat)), (ct3 (((fun q => m176 (((t175 - 1) * 4) + q)) 1).toNat)), (ct3 (((fun q => m176 (((t175 - 1) * 4) + q)) 2).toNat)), (ct3 (((fun q => m176 (((t175 - 1) * 4) + q)) 3).toNat))]), hR, (EnvHas.cons rfl (EnvHas.cons rfl (EnvHas.cons rfl (EnvHas.cons rfl (EnvHas.cons rfl (EnvHas.cons rfl (EnvHas.cons rfl EnvHas.nil))))))), h225⟩
            ·
              replace hR := ifF hR hc223
              refine W.condF (congrArg Value.bool (decide_eq_false hc223)) ?_
              refine W.skip ?_
              refine blockR_norm ?_
              exact ⟨power174, (fun q => m176 (((t175 - 1) * 4) + q)), hR, (EnvHas.cons rfl (EnvHas.cons rfl (EnvHas.cons rfl (EnvHas.cons rfl (EnvHas.cons rfl (EnvHas.cons rfl (EnvHas.cons rfl EnvHas.nil))))))), h195⟩
        ·
          rintro ev226 wl226 ⟨y_power210, y_m211, ⟨hy226_0, hy226_1⟩, he226, h226⟩
          subst hy226_0
          subst hy226_1
          obtain ⟨ev226, rfl⟩ := he226.open
          replace hR := hR0212
          refine hK196 _ _ ?_; clear hK196
          refine W.seq_k fun K227 hK227 => ?_
          refine W.regionT [(0, true)] (by kernel_rfl) ?_
          refine Plan.move_int rfl rfl ?_
          refine Plan.nil ?_
          refine hK227 _ _ ?_; clear hK227
          obtain ⟨m246, hI247, hR0247⟩ := hR
          refine W.cutN (fun e w => ∃ y_m246 : Nat → BitVec 8, m246 = y_m246 ∧ EnvHas e [(0, .pointer (some ⟨bc1, 0, none⟩)), (1, .slice akey6 key6.length ckey6), (4, .pointer (some ⟨b8, 0, none⟩)), (5, VU .u8 power210), (11, VN t175)] ∧ St B w0 (⟨some b8, 0, 240, fun q => VU .u8 (y_m246 q), true⟩ :: ⟨some bc1, 0, 240, fun q => VU .u8 (ckeys2 q), true⟩ :: ⟨some bc1, 240, 256, fun q => VU .u8 (ct3 q), true⟩ :: ⟨some bc1, 496, 256, fun q => VU .u8 (ct4 q), true⟩ :: ⟨some bc1, 752, 256, fun q => VU .u8 (ct5 q), true⟩ :: L) w) ?_ ?_
          ·
            refine W.block ?_
            refine W.iter hI247 (fun (s247 : (Nat × (Nat → BitVec 8))) e w => EnvHas e [(0, .pointer (some ⟨bc1, 0, none⟩)), (1, .slice akey6 key6.length ckey6), (4, .pointer (some ⟨b8, 0, none⟩)), (5, VU .u8 power210), (6, VN t175), (7, .pointer (some ⟨b194, 0, none⟩)), (11, VN t175), (104, VN s247.1)] ∧ St B w0 (⟨some b194, 0, 4, fun q => VU .u8 (m211 q), true⟩ :: ⟨some b8, 0, 240, fun q => VU .u8 (s247.2 q), true⟩ :: ⟨some bc1, 0, 240, fun q => VU .u8 (ckeys2 q), true⟩ :: ⟨some bc1, 240, 256, fun q => VU .u8 (ct3 q), true⟩ :: ⟨some bc1, 496, 256, fun q => VU .u8 (ct4 q), true⟩ :: ⟨some bc1, 752, 256, fun q => VU .u8 (ct5 q), true⟩ :: L) w) ⟨(EnvHas.cons rfl (EnvHas.cons rfl (EnvHas.cons rfl (EnvHas.cons rfl (EnvHas.cons rfl (EnvHas.cons rfl (EnvHas.cons rfl (EnvHas.cons rfl EnvHas.nil)))))))), h226⟩ ?_
            rintro ⟨t244, m245⟩ o247 hR hx247 ev248 wl248 ⟨he248, h248⟩
            obtain ⟨ev248, rfl⟩ := he248.open
            unfold aes_Cipher_expand_l1 at hR
            refine W.seq_k fun K249 hK249 => ?_
            refine W.regionT [(0, true)] (by kernel_rfl) ?_
            refine Plan.cmpP (a := (((t244 : Nat) : Int) : Int)) (b := (4 : Int)) (p := t244 < 4) rfl rfl rfl rfl icmp_ltN ?_
            refine Plan.nil ?_
            refine hK249 _ _ ?_; clear hK249
            refine W.seq_k fun K250 hK250 => ?_
            by_cases hc251 : t244 < 4
            ·
              replace hR := ifT hR hc251
              refine W.condT (congrArg Value.bool (decide_eq_true hc251)) ?_
              refine W.skip ?_
              refine hK250 _ _ ?_; clear hK250
              refine W.seq_k fun K252 hK252 => ?_
              refine W.block ?_
              refine W.seq_k fun K253 hK253 => ?_
              refine W.regionT [(0, true), (1, true)] (by kernel_rfl) ?_
              refine Plan.move_int rfl rfl ?_
              refine Plan.assign_int rfl rfl ?_
              refine Plan.nil ?_
              refine hK253 _ _ ?_; clear hK253
              refine W.regionD FAes.mixed [(0, true), (1, true), (2, true), (3, true), (4, true), (5, true), (6, true), (7, true), (8, true), (9, true), (10, true), (11, true), (12, true), (13, true), (14, false)] (by kernel_rfl) ?_
              have h254 := h248.drew
              refine Plan.move_int rfl rfl ?_
              refine Plan.move_int rfl rfl ?_
              refine Plan.move_int rfl rfl ?_
              refine Plan.subN (a := t175) (b := 8) rfl rfl rfl (by omega) ?_
              refine Plan.move_int rfl rfl ?_
              refine Plan.idxArrO (j := (t175 - 8)) (o' := 0 + ((t175 - 8) * 4)) FAes.arr88 rfl rfl rfl (by omega) (by omega) ?_
              refine Plan.idxArrO (j := t244) (o' := 0 + ((t175 - 8) * 4 + t244)) FAes.arr87 rfl rfl rfl (by omega) (by omega) ?_
              refine Plan.load1 (j := (t175 - 8) * 4 + t244) h254 1 rfl rfl rfl (by omega) FAes.sc5 ?_
              refine Plan.move_int rfl rfl ?_
              refine Plan.idxArr1 (j := t244) FAes.arr87 rfl rfl rfl (by omega) ?_
              refine Plan.load1 (j := t244) h254 0 rfl rfl rfl (by omega) FAes.sc5 ?_
              refine Plan.xorU .u8 (X := (m245 ((t175 - 8) * 4 + t244))) (Y := (m211 t244)) rfl rfl rfl ?_
              refine Plan.idxArrO (j := t175) (o' := 0 + (t175 * 4)) FAes.arr88 rfl rfl rfl (by omega) (by omega) ?_
              refine Plan.idxArrO (j := t244) (o' := 0 + (t175 * 4 + t244)) FAes.arr87 rfl rfl rfl (by omega) (by omega) ?_
              refine Plan.storeU (j := t175 * 4 + t244) (X := ((m245 ((t175 - 8) * 4 + t244)) ^^^ (m211 t244))) h254 1 rfl rfl rfl rfl (by omega) FAes.sz5 rfl fun w255 h255 => ?_
              simp only [List.cons_append, List.nil_append, List.set_cons_zero, List.set_cons_succ] at h255
              refine Plan.nil ?_
              refine blockR_norm ?_
              refine hK252 _ _ ?_; clear hK252
              refine W.regionT [(0, true), (1, true)] (by kernel_rfl) ?_
              refine Plan.addN (a := t244) (b := 1) rfl rfl rfl (by omega) ?_
              refine Plan.move_int rfl rfl ?_
              refine Plan.nil ?_
              exact iterR_norm ⟨_, hR, (EnvHas.cons rfl (EnvHas.cons rfl (EnvHas.cons rfl (EnvHas.cons rfl (EnvHas.cons rfl (EnvHas.cons rfl (EnvHas.cons rfl (EnvHas.cons rfl EnvHas.nil)))))))), h255⟩
            ·
              replace hR := ifF hR hc251
              refine W.condF (congrArg Value.bool (decide_eq_false hc251)) ?_
              refine W.exit (thenR_exit (iterR_exit (blockR_here ?_)))
              have h256 := St.pickT (C := [_, _, _, _, _, _]) h248 [1, 2, 3, 4, 5] (by decide)
              simp only [pick, List.filterMap_cons, List.filterMap_nil, List.getElem?_cons_zero, List.getElem?_cons_succ, List.cons_append, List.nil_append] at h256
              exact ⟨m245, (hx247 _ hR).symm, (EnvHas.cons rfl (EnvHas.cons rfl (EnvHas.cons rfl (EnvHas.cons rfl (EnvHas.cons rfl EnvHas.nil))))), h256⟩
          ·
            rintro ev257 wl257 ⟨y_m246, hy257, he257, h257⟩
            obtain ⟨ev257, rfl⟩ := he257.open
            subst hy257
            replace hR := hR0247
            refine blockR_norm ?_
            refine hK183 _ _ ?_; clear hK183
            refine W.regionT [(0, true), (1, true)] (by kernel_rfl) ?_
            refine Plan.addN (a := t175) (b := 1) rfl rfl rfl (by omega) ?_
            refine Plan.move_int rfl rfl ?_
            refine Plan.nil ?_
            exact iterR_norm ⟨_, hR, (EnvHas.cons rfl (EnvHas.cons rfl (EnvHas.cons rfl (EnvHas.cons rfl (EnvHas.cons rfl EnvHas.nil))))), h257⟩
    ·
      replace hR := ifF hR hc182
      refine W.condF (congrArg Value.bool (decide_eq_false hc182)) ?_
      refine W.exit (thenR_exit (iterR_exit (blockR_here ?_)))
      exact ⟨m176, (hx178 _ hR).symm, (EnvHas.cons rfl (EnvHas.cons rfl EnvHas.nil)), h179⟩
  ·
    rintro ev258 wl258 ⟨y_m177, hy258, he258, h258⟩
    obtain ⟨ev258, rfl⟩ := he258.open
    subst hy258
    replace hR := hR0178
    refine hK10 _ _ ?_; clear hK10
    refine W.seq_k fun K259 hK259 => ?_
    refine W.regionT [(0, true), (1, true)] (by kernel_rfl) ?_
    refine Plan.loadA1 h258 0 rfl rfl rfl FAes.agg88 ?_
    refine Plan.move_int rfl rfl ?_
    refine Plan.nil ?_
    refine hK259 _ _ ?_; clear hK259
    obtain ⟨m284, hI285, hR0285⟩ := hR
    refine W.cutN (fun e w => ∃ y_m284 : Nat → BitVec 8, m284 = y_m284 ∧ EnvHas e [] ∧ St B w0 (⟨some bc1, 0, 240, fun q => VU .u8 (y_m284 q), true⟩ :: ⟨some bc1, 240, 256, fun q => VU .u8 (ct3 q), true⟩ :: ⟨some bc1, 496, 256, fun q => VU .u8 (ct4 q), true⟩ :: ⟨some bc1, 752, 256, fun q => VU .u8 (ct5 q), true⟩ :: L) w) ?_ ?_
    ·
      refine W.block ?_
      have h286 := St.pickT (C := [_, _, _, _, _]) h258 [1, 2, 3, 4] (by decide)
      simp only [pick, List.filterMap_cons, List.filterMap_nil, List.getElem?_cons_zero, List.getElem?_cons_succ, List.cons_append, List.nil_append] at h286
      refine W.iter hI285 (fun (s285 : (Nat × (Nat → BitVec 8))) e w => EnvHas e [(0, .pointer (some ⟨bc1, 0, none⟩)), (123, AG [(240, fun q => VU .u8 (m177 q))]), (124, VN s285.1)] ∧ St B w0 (⟨some bc1, 0, 240, fun q => VU .u8 (s285.2 q), true⟩ :: ⟨some bc1, 240, 256, fun q => VU .u8 (ct3 q), true⟩ :: ⟨some bc1, 496, 256, fun q => VU .u8 (ct4 q), true⟩ :: ⟨some bc1, 752, 256, fun q => VU .u8 (ct5 q), true⟩ :: L) w) ⟨(EnvHas.cons rfl (EnvHas.cons rfl (EnvHas.cons rfl EnvHas.nil))), h286⟩ ?_
      rintro ⟨t282, m283⟩ o285 hR hx285 ev287 wl287 ⟨he287, h287⟩
      obtain ⟨ev287, rfl⟩ := he287.open
      unfold aes_Cipher_expand_l2 at hR
      refine W.seq_k fun K288 hK288 => ?_
      refine W.regionT [(0, true)] (by kernel_rfl) ?_
      refine Plan.cmpP (a := (((t282 : Nat) : Int) : Int)) (b := (60 : Int)) (p := t282 < 60) rfl rfl rfl rfl icmp_ltN ?_
      refine Plan.nil ?_
      refine hK288 _ _ ?_; clear hK288
      refine W.seq_k fun K289 hK289 => ?_
      by_cases hc290 : t282 < 60
      ·
        replace hR := ifT hR hc290
        refine W.condT (congrArg Value.bool (decide_eq_true hc290)) ?_
        refine W.skip ?_
        refine hK289 _ _ ?_; clear hK289
        refine W.seq_k fun K291 hK291 => ?_
        refine W.block ?_
        refine W.seq_k fun K292 hK292 => ?_
        refine W.regionT [(0, true), (1, true), (2, false), (3, true), (4, false)] (by kernel_rfl) ?_
        refine Plan.move_int rfl rfl ?_
        refine Plan.indexAA (j := t282) (sz := 4) FAes.isarr88 FAes.agg87 rfl rfl rfl (by omega) (by decide) ?_
        refine Plan.alloc h287 rfl FAes.z87 PIn.nil fun b293 w293 hb293 h293 => ?_
        simp only [rngs, Nat.zero_add, Nat.reduceAdd, List.cons_append, List.nil_append] at h293
        refine Plan.assign_int rfl rfl ?_
        refine Plan.storeA (f' := fun q => VU .u8 ((fun q => m177 (t282 * 4 + q)) q)) h293 0 rfl rfl rfl rfl (fun _ _ => rfl) FAes.sz87 rfl fun w294 h294 => ?_
        simp only [List.cons_append, List.nil_append, List.set_cons_zero, List.set_cons_succ] at h294
        refine Plan.nil ?_
        refine hK292 _ _ ?_; clear hK292
        refine W.regionD FAes.mixed [(0, true), (1, true), (2, true), (3, true), (4, true), (5, true), (6, true), (7, true), (8, true), (9, true), (10, true), (11, false)] (by kernel_rfl) ?_
        have h295 := h294.drew
        refine Plan.move_ptr rfl rfl ?_
        refine Plan.move_int rfl rfl ?_
        refine Plan.quoN (a := t282) (b := 4) rfl rfl rfl (by omega) ?_
        refine Plan.nilCheck rfl rfl ?_
        refine Plan.fieldAddr0 FAes.fld70_0 rfl rfl ?_
        refine Plan.idxArrO (j := (t282 / 4)) (o' := 0 + ((t282 / 4) * 16)) FAes.arr68 rfl rfl rfl (by omega) (by omega) ?_
        refine Plan.move_int rfl rfl ?_
        refine Plan.remN (a := t282) (b := 4) rfl rfl rfl (by omega) ?_
        refine Plan.mulN (a := 4) (b := (t282 % 4)) rfl rfl rfl (by omega) ?_
        obtain ⟨hc296, hR⟩ := hR
        refine Plan.slArrO (lo := (4 * (t282 % 4))) (hi := 16) (m := (16 - (4 * (t282 % 4)))) (c := (16 - (4 * (t282 % 4)))) (o' := 0 + ((t282 / 4) * 16 + (4 * (t282 % 4)))) FAes.arr31 rfl rfl ⟨_, rfl⟩ rfl (by omega) (by omega) (by omega) (by omega) ?_
        refine Plan.slArrO (lo := 0) (hi := 4) (m := 4) (c := 4) (o' := 0) FAes.arr87 rfl rfl rfl rfl (by omega) (by omega) (by omega) (by omega) ?_
        refine Plan.copyB (jd := (t282 / 4) * 16 + (4 * (t282 % 4))) (X := (dl 4 (fun q => m177 (t282 * 4 + q)))) h295 1 (min 4 (16 - (4 * (t282 % 4)))) FAes.sl24 rfl rfl rfl rfl ((Bx.arr0 (n := 4) (cc := 4) 0 rfl (by omega) (by omega)).bs' 1 rfl) (fun _ => ⟨_, rfl, rfl⟩) rfl rfl (by omega) (EffO.keep PIn.nil) fun w297 h297 => ?_
        simp only [List.cons_append, List.nil_append, List.set_cons_zero, List.set_cons_succ] at h297
        refine Plan.nil ?_
        refine blockR_norm ?_
        refine hK291 _ _ ?_; clear hK291
        refine W.regionT [(0, true), (1, true)] (by kernel_rfl) ?_
        refine Plan.addN (a := t282) (b := 1) rfl rfl rfl (by omega) ?_
        refine Plan.move_int rfl rfl ?_
        refine Plan.nil ?_
        have h298 := St.pickT (C := [_, _, _, _, _]) h297 [1, 2, 3, 4] (by decide)
        simp only [pick, List.filterMap_cons, List.filterMap_nil, List.getElem?_cons_zero, List.getElem?_cons_succ, List.cons_append, List.nil_append] at h298
        exact iterR_norm ⟨_, hR, (EnvHas.cons rfl (EnvHas.cons rfl (EnvHas.cons rfl EnvHas.nil))), h298⟩
      ·
        replace hR := ifF hR hc290
        refine W.condF (congrArg Value.bool (decide_eq_false hc290)) ?_
        refine W.exit (thenR_exit (iterR_exit (blockR_here ?_)))
        exact ⟨m283, (hx285 _ hR).symm, EnvHas.nil, h287⟩
    ·
      rintro ev299 wl299 ⟨y_m284, hy299, he299, h299⟩
      obtain ⟨ev299, rfl⟩ := he299.open
      subst hy299
      replace hR := hR0285
      refine finR_norm ?_
      subst r
      refine RetOk.mk .nil ?_
      exact ⟨rfl, h299⟩


set_option maxRecDepth 8000 in
set_option maxHeartbeats 1000000 in
theorem aes_New_ok {B : Nat} {w0 w : World} {L : List Rg} {key1 : List Byte} {akey1 : Option Addr} {nkey1 ckey1 ikey1 : Nat} (hkey1 : Bx L ikey1 akey1 nkey1 ckey1 key1) {r : Nat ⊕ ((Nat → BitVec 8) × (Nat → BitVec 8) × (Nat → BitVec 8) × (Nat → BitVec 8) × Nat)} (hR : aes_New key1 r) (HST : St B w0 (L) w) :
    Calls Tryd.prog 19 #[.slice akey1 nkey1 ckey1] w fun e w' => match r with | .inl z => e = .returned (.tuple #[.pointer none, VN z]) ∧ St B w0 (L) w' | .inr z => ∃ b0 : Nat, e = .returned (.tuple #[.pointer (some ⟨b0, 0, none⟩), VN z.2.2.2.2]) ∧ St B w0 (⟨some b0, 0, 240, fun q => VU .u8 (z.1 q), true⟩ :: ⟨some b0, 240, 256, fun q => VU .u8 (z.2.1 q), true⟩ :: ⟨some b0, 496, 256, fun q => VU .u8 (z.2.2.1 q), true⟩ :: ⟨some b0, 752, 256, fun q => VU .u8 (z.2.2.2.1 q), true⟩ :: L) w' := by
  refine W.enter 15 Tryd.func19 rfl rfl rfl ?_
  unfold aes_New at hR
  have ekey1 := hkey1.hl; subst ekey1
  refine W.seq_k fun K2 hK2 => ?_
  refine W.regionT [(0, true), (1, true)] (by kernel_rfl) ?_
  refine Plan.assign_ptr rfl rfl ?_
  refine Plan.assign_int rfl rfl ?_
  refine Plan.nil ?_
  refine hK2 _ _ ?_; clear hK2
  refine W.seq_k fun K3 hK3 => ?_
  refine W.seq_k fun K4 hK4 => ?_
  refine W.regionT [(0, true), (1, true), (2, true)] (by kernel_rfl) ?_
  refine Plan.move_slice rfl rfl ?_
  refine Plan.len FAes.isl24 rfl rfl ?_
  refine Plan.cmpP (a := (((key1.length : Nat) : Int) : Int)) (b := (32 : Int)) (p := key1.length ≠ 32) rfl rfl rfl rfl icmp_neN ?_
  refine Plan.nil ?_
  refine hK4 _ _ ?_; clear hK4
  by_cases hc5 : key1.length ≠ 32
  ·
    replace hR := ifT hR hc5
    refine W.condT (congrArg Value.bool (decide_eq_true hc5)) ?_
    refine W.seq_k fun K6 hK6 => ?_
    refine W.regionT [(0, true), (1, true)] (by kernel_rfl) ?_
    refine Plan.assign_ptr rfl rfl ?_
    refine Plan.assign_int rfl rfl ?_
    refine Plan.nil ?_
    refine hK6 _ _ ?_; clear hK6
    refine W.ret (thenR_ret (finR_ret ?_))
    subst r
    refine RetOk.mk (.tmp_ptr rfl (.tmp_int rfl .nil)) ?_
    exact ⟨rfl, HST⟩
  ·
    replace hR := ifF hR hc5
    refine W.condF (congrArg Value.bool (decide_eq_false hc5)) ?_
    refine W.skip ?_
    refine hK3 _ _ ?_; clear hK3
    refine W.seq_k fun K7 hK7 => ?_
    refine W.regionT [(0, false), (1, true), (2, false), (3, true)] (by kernel_rfl) ?_
    obtain ⟨x_9, x_10, x_11, hr8, hR⟩ := hR
    refine Plan.call (vs := []) rfl FAes.call33 rfl (aes_fill_ok  hr8 HST) ?_
    rintro _ w12 ⟨rfl, h12⟩
    refine ⟨_, rfl, .inl ⟨PIn.keep PIn.nil h12, ?_⟩⟩
    refine Plan.buildP (ps := [(240, fun q => VU .u8 ((fun _ => 0#8) q)), (256, fun q => VU .u8 (x_9 q)), (256, fun q => VU .u8 (x_10 q)), (256, fun q => VU .u8 (x_11 q))]) FAes.pl70 (by decide) FAes.z70 rfl rfl (.agg [(240, fun q => VU .u8 ((fun _ => 0#8) q))] [(256, fun q => VU .u8 ((fun _ => 0#8) q)), (256, fun q => VU .u8 ((fun _ => 0#8) q)), (256, fun q => VU .u8 ((fun _ => 0#8) q))] [] [(256, fun q => VU .u8 (x_9 q)), (256, fun q => VU .u8 (x_10 q)), (256, fun q => VU .u8 (x_11 q))] rfl rfl .nil) ?_
    refine Plan.boxA h12 rfl rfl PIn.nil fun b13 w13 hb13 h13 => ?_
    simp only [rngs, Nat.zero_add, Nat.reduceAdd, List.cons_append, List.nil_append] at h13
    refine Plan.assign_ptr rfl rfl ?_
    refine Plan.nil ?_
    refine hK7 _ _ ?_; clear hK7
    refine W.seq_k fun K14 hK14 => ?_
    refine W.regionT [(0, true), (1, true), (2, false)] (by kernel_rfl) ?_
    refine Plan.move_ptr rfl rfl ?_
    refine Plan.move_slice rfl rfl ?_
    obtain ⟨x_16, hr15, hR⟩ := hR
    refine Plan.call (vs := [.pointer (some ⟨b13, 0, none⟩), .slice akey1 key1.length ckey1]) rfl FAes.call34 rfl (aes_Cipher_expand_ok hkey1 hr15 h13) ?_
    rintro _ w17 ⟨rfl, h17⟩
    refine ⟨_, rfl, .inl ⟨PIn.keep PIn.nil h17, ?_⟩⟩
    refine Plan.nil ?_
    refine hK14 _ _ ?_; clear hK14
    refine W.seq_k fun K18 hK18 => ?_
    refine W.regionT [(0, true), (1, true), (2, true)] (by kernel_rfl) ?_
    refine Plan.move_ptr rfl rfl ?_
    refine Plan.assign_ptr rfl rfl ?_
    refine Plan.assign_int rfl rfl ?_
    refine Plan.nil ?_
    refine hK18 _ _ ?_; clear hK18
    refine W.ret (finR_ret ?_)
    subst r
    refine RetOk.mk (.tmp_ptr rfl (.tmp_int rfl .nil)) ?_
    exact ⟨b13, rfl, h17⟩


set_option maxRecDepth 8000 in
set_option maxHeartbeats 1000000 in
theorem aes_Cipher_add_ok {B : Nat} {w0 w : World} {L : List Rg} {bc1 : Nat} {ckeys2 : Nat → BitVec 8} {ct3 : Nat → BitVec 8} {ct4 : Nat → BitVec 8} {ct5 : Nat → BitVec 8} {bs6 : Nat} {s7 : Nat → BitVec 8} {round8 : Int} {r : (Nat → BitVec 8)} (hR : aes_Cipher_add ckeys2 ct3 ct4 ct5 s7 round8 r) (HST : St B w0 (⟨some bc1, 0, 240, fun q => VU .u8 (ckeys2 q), true⟩ :: ⟨some bc1, 240, 256, fun q => VU .u8 (ct3 q), true⟩ :: ⟨some bc1, 496, 256, fun q => VU .u8 (ct4 q), true⟩ :: ⟨some bc1, 752, 256, fun q => VU .u8 (ct5 q), true⟩ :: ⟨some bs6, 0, 16, fun q => VU .u8 (s7 q), true⟩ :: L) w) :
    Calls Tryd.prog 51 #[.pointer (some ⟨bc1, 0, none⟩), .pointer (some ⟨bs6, 0, none⟩), .int .i64 round8] w fun e w' => e = .returned (.tuple #[]) ∧ St B w0 (⟨some bc1, 0, 240, fun q => VU .u8 (ckeys2 q), true⟩ :: ⟨some bc1, 240, 256, fun q => VU .u8 (ct3 q), true⟩ :: ⟨some bc1, 496, 256, fun q => VU .u8 (ct4 q), true⟩ :: ⟨some bc1, 752, 256, fun q => VU .u8 (ct5 q), true⟩ :: ⟨some bs6, 0, 16, fun q => VU .u8 (r q), true⟩ :: L) w' := by
  refine W.enter 28 Tryd.func51 rfl rfl rfl ?_
  unfold aes_Cipher_add at hR
  refine W.seq_k fun K9 hK9 => ?_
  refine W.regionT [(0, true), (1, true), (2, true), (3, true), (4, true), (5, true), (6, true)] (by kernel_rfl) ?_
  refine Plan.move_ptr rfl rfl ?_
  refine Plan.move_int rfl rfl ?_
  refine Plan.nilCheck rfl rfl ?_
  refine Plan.fieldAddr0 FAes.fld70_0 rfl rfl ?_
  obtain ⟨hc10, hR⟩ := hR
  refine Plan.idxArrO (j := round8.toNat) (o' := 0 + (round8.toNat * 16)) FAes.arr68 rfl rfl (congrArg (Value.int .i64) (Int.toNat_of_nonneg hc10.1).symm) (by omega) (by omega) ?_
  refine Plan.loadSub (m' := 16) HST 0 (round8.toNat * 16) rfl rfl rfl rfl (by omega) FAes.agg31 ?_
  refine Plan.move_int rfl rfl ?_
  refine Plan.nil ?_
  refine hK9 _ _ ?_; clear hK9
  obtain ⟨m29, hI30, hR030⟩ := hR
  refine W.cutN (fun e w => ∃ y_m29 : Nat → BitVec 8, m29 = y_m29 ∧ EnvHas e [] ∧ St B w0 (⟨some bc1, 0, 240, fun q => VU .u8 (ckeys2 q), true⟩ :: ⟨some bc1, 240, 256, fun q => VU .u8 (ct3 q), true⟩ :: ⟨some bc1, 496, 256, fun q => VU .u8 (ct4 q), true⟩ :: ⟨some bc1, 752, 256, fun q => VU .u8 (ct5 q), true⟩ :: ⟨some bs6, 0, 16, fun q => VU .u8 (y_m29 q), true⟩ :: L) w) ?_ ?_
  ·
    refine W.block ?_
    refine W.iter hI30 (fun (s30 : (Nat × (Nat → BitVec 8))) e w => EnvHas e [(1, .pointer (some ⟨bs6, 0, none⟩)), (13, AG [(16, fun q => VU .u8 ((fun q => ckeys2 ((round8.toNat * 16) + q)) q))]), (14, VN s30.1)] ∧ St B w0 (⟨some bc1, 0, 240, fun q => VU .u8 (ckeys2 q), true⟩ :: ⟨some bc1, 240, 256, fun q => VU .u8 (ct3 q), true⟩ :: ⟨some bc1, 496, 256, fun q => VU .u8 (ct4 q), true⟩ :: ⟨some bc1, 752, 256, fun q => VU .u8 (ct5 q), true⟩ :: ⟨some bs6, 0, 16, fun q => VU .u8 (s30.2 q), true⟩ :: L) w) ⟨(EnvHas.cons rfl (EnvHas.cons rfl (EnvHas.cons rfl EnvHas.nil))), HST⟩ ?_
    rintro ⟨t27, m28⟩ o30 hR hx30 ev31 wl31 ⟨he31, h31⟩
    obtain ⟨ev31, rfl⟩ := he31.open
    unfold aes_Cipher_add_l0 at hR
    refine W.seq_k fun K32 hK32 => ?_
    refine W.regionT [(0, true)] (by kernel_rfl) ?_
    refine Plan.cmpP (a := (((t27 : Nat) : Int) : Int)) (b := (16 : Int)) (p := t27 < 16) rfl rfl rfl rfl icmp_ltN ?_
    refine Plan.nil ?_
    refine hK32 _ _ ?_; clear hK32
    refine W.seq_k fun K33 hK33 => ?_
    by_cases hc34 : t27 < 16
    ·
      replace hR := ifT hR hc34
      refine W.condT (congrArg Value.bool (decide_eq_true hc34)) ?_
      refine W.skip ?_
      refine hK33 _ _ ?_; clear hK33
      refine W.seq_k fun K35 hK35 => ?_
      refine W.block ?_
      refine W.seq_k fun K36 hK36 => ?_
      refine W.regionT [(0, true), (1, true), (2, true), (3, true)] (by kernel_rfl) ?_
      refine Plan.move_int rfl rfl ?_
      refine Plan.indexA (j := t27) FAes.isarr31 FAes.sz5 FAes.sc5 rfl rfl rfl (by omega) (by decide) ?_
      refine Plan.assign_int rfl rfl ?_
      refine Plan.assign_int rfl rfl ?_
      refine Plan.nil ?_
      refine hK36 _ _ ?_; clear hK36
      refine W.regionD FAes.mixed [(0, true), (1, true), (2, true), (3, true), (4, true), (5, true), (6, true), (7, true), (8, true), (9, false)] (by kernel_rfl) ?_
      have h37 := h31.drew
      refine Plan.move_ptr rfl rfl ?_
      refine Plan.move_int rfl rfl ?_
      refine Plan.nilCheck rfl rfl ?_
      refine Plan.idxArr1 (j := t27) FAes.arr31 rfl rfl rfl (by omega) ?_
      refine Plan.load1 (j := t27) h37 4 rfl rfl rfl (by omega) FAes.sc5 ?_
      refine Plan.move_int rfl rfl ?_
      refine Plan.xorU .u8 (X := (m28 t27)) (Y := ((fun q => ckeys2 ((round8.toNat * 16) + q)) t27)) rfl rfl rfl ?_
      refine Plan.nilCheck rfl rfl ?_
      refine Plan.idxArr1 (j := t27) FAes.arr31 rfl rfl rfl (by omega) ?_
      refine Plan.storeU (j := t27) (X := ((m28 t27) ^^^ ((fun q => ckeys2 ((round8.toNat * 16) + q)) t27))) h37 4 rfl rfl rfl rfl (by omega) FAes.sz5 rfl fun w38 h38 => ?_
      simp only [List.cons_append, List.nil_append, List.set_cons_zero, List.set_cons_succ] at h38
      refine Plan.nil ?_
      refine blockR_norm ?_
      refine hK35 _ _ ?_; clear hK35
      refine W.regionT [(0, true), (1, true)] (by kernel_rfl) ?_
      refine Plan.addN (a := t27) (b := 1) rfl rfl rfl (by omega) ?_
      refine Plan.move_int rfl rfl ?_
      refine Plan.nil ?_
      exact iterR_norm ⟨_, hR, (EnvHas.cons rfl (EnvHas.cons rfl (EnvHas.cons rfl EnvHas.nil))), h38⟩
    ·
      replace hR := ifF hR hc34
      refine W.condF (congrArg Value.bool (decide_eq_false hc34)) ?_
      refine W.exit (thenR_exit (iterR_exit (blockR_here ?_)))
      exact ⟨m28, (hx30 _ hR).symm, EnvHas.nil, h31⟩
  ·
    rintro ev39 wl39 ⟨y_m29, hy39, he39, h39⟩
    obtain ⟨ev39, rfl⟩ := he39.open
    subst hy39
    replace hR := hR030
    refine finR_norm ?_
    subst r
    refine RetOk.mk .nil ?_
    exact ⟨rfl, h39⟩


set_option maxRecDepth 8000 in
set_option maxHeartbeats 1000000 in
theorem aes_Cipher_mix_ok {B : Nat} {w0 w : World} {L : List Rg} {bc1 : Nat} {ckeys2 : Nat → BitVec 8} {ct3 : Nat → BitVec 8} {ct4 : Nat → BitVec 8} {ct5 : Nat → BitVec 8} {bs6 : Nat} {s7 : Nat → BitVec 8} {r : (Nat → BitVec 8)} (hR : aes_Cipher_mix ckeys2 ct3 ct4 ct5 s7 r) (HST : St B w0 (⟨some bc1, 0, 240, fun q => VU .u8 (ckeys2 q), true⟩ :: ⟨some bc1, 240, 256, fun q => VU .u8 (ct3 q), true⟩ :: ⟨some bc1, 496, 256, fun q => VU .u8 (ct4 q), true⟩ :: ⟨some bc1, 752, 256, fun q => VU .u8 (ct5 q), true⟩ :: ⟨some bs6, 0, 16, fun q => VU .u8 (s7 q), true⟩ :: L) w) :
    Calls Tryd.prog 52 #[.pointer (some ⟨bc1, 0, none⟩), .pointer (some ⟨bs6, 0, none⟩)] w fun e w' => e = .returned (.tuple #[]) ∧ St B w0 (⟨some bc1, 0, 240, fun q => VU .u8 (ckeys2 q), true⟩ :: ⟨some bc1, 240, 256, fun q => VU .u8 (ct3 q), true⟩ :: ⟨some bc1, 496, 256, fun q => VU .u8 (ct4 q), true⟩ :: ⟨some bc1, 752, 256, fun q => VU .u8 (ct5 q), true⟩ :: ⟨some bs6, 0, 16, fun q => VU .u8 (r q), true⟩ :: L) w' := by
  refine W.enter 112 Tryd.func52 rfl rfl rfl ?_
  unfold aes_Cipher_mix at hR
  refine W.seq_k fun K8 hK8 => ?_
  refine W.regionT [(0, true), (1, true), (2, true), (3, true), (4, true)] (by kernel_rfl) ?_
  refine Plan.move_ptr rfl rfl ?_
  refine Plan.nilCheck rfl rfl ?_
  refine Plan.fieldAddr 240 FAes.fld70_1 rfl rfl ?_
  refine Plan.fieldAddr 512 FAes.fld66_2 rfl rfl ?_
  refine Plan.assign_ptr rfl rfl ?_
  refine Plan.nil ?_
  refine hK8 _ _ ?_; clear hK8
  refine W.seq_k fun K9 hK9 => ?_
  refine W.regionT [(0, true)] (by kernel_rfl) ?_
  refine Plan.assign_int rfl rfl ?_
  refine Plan.nil ?_
  refine hK9 _ _ ?_; clear hK9
  obtain ⟨m56, hI57, hR057⟩ := hR
  refine W.cutN (fun e w => ∃ y_m56 : Nat → BitVec 8, m56 = y_m56 ∧ EnvHas e [] ∧ St B w0 (⟨some bc1, 0, 240, fun q => VU .u8 (ckeys2 q), true⟩ :: ⟨some bc1, 240, 256, fun q => VU .u8 (ct3 q), true⟩ :: ⟨some bc1, 496, 256, fun q => VU .u8 (ct4 q), true⟩ :: ⟨some bc1, 752, 256, fun q => VU .u8 (ct5 q), true⟩ :: ⟨some bs6, 0, 16, fun q => VU .u8 (y_m56 q), true⟩ :: L) w) ?_ ?_
  ·
    refine W.block ?_
    refine W.iter hI57 (fun (s57 : (Nat × (Nat → BitVec 8))) e w => EnvHas e [(1, .pointer (some ⟨bs6, 0, none⟩)), (4, .pointer (some ⟨bc1, 752, none⟩)), (5, VN s57.1)] ∧ St B w0 (⟨some bc1, 0, 240, fun q => VU .u8 (ckeys2 q), true⟩ :: ⟨some bc1, 240, 256, fun q => VU .u8 (ct3 q), true⟩ :: ⟨some bc1, 496, 256, fun q => VU .u8 (ct4 q), true⟩ :: ⟨some bc1, 752, 256, fun q => VU .u8 (ct5 q), true⟩ :: ⟨some bs6, 0, 16, fun q => VU .u8 (s57.2 q), true⟩ :: L) w) ⟨(EnvHas.cons rfl (EnvHas.cons rfl (EnvHas.cons rfl EnvHas.nil))), HST⟩ ?_
    rintro ⟨i_54, m55⟩ o57 hR hx57 ev58 wl58 ⟨he58, h58⟩
    obtain ⟨ev58, rfl⟩ := he58.open
    unfold aes_Cipher_mix_l0 at hR
    refine W.seq_k fun K59 hK59 => ?_
    refine W.seq_k fun K60 hK60 => ?_
    refine W.regionT [(0, true), (1, true)] (by kernel_rfl) ?_
    refine Plan.move_int rfl rfl ?_
    refine Plan.cmpP (a := (((i_54 : Nat) : Int) : Int)) (b := (16 : Int)) (p := i_54 < 16) rfl rfl rfl rfl icmp_ltN ?_
    refine Plan.nil ?_
    refine hK60 _ _ ?_; clear hK60
    by_cases hc61 : i_54 < 16
    ·
      replace hR := ifT hR hc61
      refine W.condT (congrArg Value.bool (decide_eq_true hc61)) ?_
      refine W.skip ?_
      refine hK59 _ _ ?_; clear hK59
      refine W.seq_k fun K62 hK62 => ?_
      refine W.block ?_
      refine W.seq_k fun K63 hK63 => ?_
      refine W.regionD FAes.mixed [(0, true), (1, true), (2, true), (3, true), (4, true), (5, true), (6, true), (7, true), (8, true), (9, true), (10, true), (11, true), (12, true), (13, true), (14, true), (15, true), (16, true), (17, true), (18, true), (19, true), (20, true), (21, true), (22, true), (23, true), (24, true), (25, true), (26, true)] (by kernel_rfl) ?_
      have h64 := h58.drew
      refine Plan.move_ptr rfl rfl ?_
      refine Plan.move_int rfl rfl ?_
      refine Plan.nilCheck rfl rfl ?_
      refine Plan.idxArr1 (j := i_54) FAes.arr31 rfl rfl rfl (by omega) ?_
      refine Plan.load1 (j := i_54) h64 4 rfl rfl rfl (by omega) FAes.sc5 ?_
      refine Plan.move_ptr rfl rfl ?_
      refine Plan.move_int rfl rfl ?_
      refine Plan.addN (a := i_54) (b := 1) rfl rfl rfl (by omega) ?_
      refine Plan.nilCheck rfl rfl ?_
      obtain ⟨hc65, hR⟩ := hR
      refine Plan.idxArr1 (j := (i_54 + 1)) FAes.arr31 rfl rfl rfl hc65 ?_
      refine Plan.load1 (j := (i_54 + 1)) h64 4 rfl rfl rfl (by omega) FAes.sc5 ?_
      refine Plan.move_ptr rfl rfl ?_
      refine Plan.move_int rfl rfl ?_
      refine Plan.addN (a := i_54) (b := 2) rfl rfl rfl (by omega) ?_
      refine Plan.nilCheck rfl rfl ?_
      obtain ⟨hc66, hR⟩ := hR
      refine Plan.idxArr1 (j := (i_54 + 2)) FAes.arr31 rfl rfl rfl hc66 ?_
      refine Plan.load1 (j := (i_54 + 2)) h64 4 rfl rfl rfl (by omega) FAes.sc5 ?_
      refine Plan.move_ptr rfl rfl ?_
      refine Plan.move_int rfl rfl ?_
      refine Plan.addN (a := i_54) (b := 3) rfl rfl rfl (by omega) ?_
      refine Plan.nilCheck rfl rfl ?_
      obtain ⟨hc67, hR⟩ := hR
      refine Plan.idxArr1 (j := (i_54 + 3)) FAes.arr31 rfl rfl rfl hc67 ?_
      refine Plan.load1 (j := (i_54 + 3)) h64 4 rfl rfl rfl (by omega) FAes.sc5 ?_
      refine Plan.assign_int rfl rfl ?_
      refine Plan.assign_int rfl rfl ?_
      refine Plan.assign_int rfl rfl ?_
      refine Plan.assign_int rfl rfl ?_
      refine Plan.nil ?_
      refine hK63 _ _ ?_; clear hK63
      refine W.seq_k fun K68 hK68 => ?_
      refine W.regionT [(0, true), (1, true), (2, true), (3, true), (4, true), (5, true), (6, true), (7, true)] (by kernel_rfl) ?_
      refine Plan.move_int rfl rfl ?_
      refine Plan.move_int rfl rfl ?_
      refine Plan.xorU .u8 (X := (m55 i_54)) (Y := (m55 (i_54 + 1))) rfl rfl rfl ?_
      refine Plan.move_int rfl rfl ?_
      refine Plan.xorU .u8 (X := ((m55 i_54) ^^^ (m55 (i_54 + 1)))) (Y := (m55 (i_54 + 2))) rfl rfl rfl ?_
      refine Plan.move_int rfl rfl ?_
      refine Plan.xorU .u8 (X := (((m55 i_54) ^^^ (m55 (i_54 + 1))) ^^^ (m55 (i_54 + 2)))) (Y := (m55 (i_54 + 3))) rfl rfl rfl ?_
      refine Plan.assign_int rfl rfl ?_
      refine Plan.nil ?_
      refine hK68 _ _ ?_; clear hK68
      refine W.seq_k fun K69 hK69 => ?_
      refine W.regionD FAes.mixed [(0, true), (1, true), (2, true), (3, true), (4, true), (5, true), (6, true), (7, true), (8, true), (9, true), (10, true), (11, true), (12, true), (13, true), (14, true), (15, false)] (by kernel_rfl) ?_
      have h70 := h64.drew
      refine Plan.move_ptr rfl rfl ?_
      refine Plan.move_int rfl rfl ?_
      refine Plan.move_int rfl rfl ?_
      refine Plan.move_int rfl rfl ?_
      refine Plan.xorU .u8 (X := (m55 i_54)) (Y := ((((m55 i_54) ^^^ (m55 (i_54 + 1))) ^^^ (m55 (i_54 + 2))) ^^^ (m55 (i_54 + 3)))) rfl rfl rfl ?_
      refine Plan.move_ptr rfl rfl ?_
      refine Plan.move_int rfl rfl ?_
      refine Plan.move_int rfl rfl ?_
      refine Plan.xorU .u8 (X := (m55 i_54)) (Y := (m55 (i_54 + 1))) rfl rfl rfl ?_
      refine Plan.nilCheck rfl rfl ?_
      refine Plan.idxArr1 (j := ((m55 i_54) ^^^ (m55 (i_54 + 1))).toNat) FAes.arr64 rfl rfl rfl ((m55 i_54) ^^^ (m55 (i_54 + 1))).isLt ?_
      refine Plan.load1 (j := ((m55 i_54) ^^^ (m55 (i_54 + 1))).toNat) h70 3 rfl rfl rfl (by omega) FAes.sc5 ?_
      refine Plan.xorU .u8 (X := ((m55 i_54) ^^^ ((((m55 i_54) ^^^ (m55 (i_54 + 1))) ^^^ (m55 (i_54 + 2))) ^^^ (m55 (i_54 + 3))))) (Y := (ct5 (((m55 i_54) ^^^ (m55 (i_54 + 1))).toNat))) rfl rfl rfl ?_
      refine Plan.nilCheck rfl rfl ?_
      refine Plan.idxArr1 (j := i_54) FAes.arr31 rfl rfl rfl (by omega) ?_
      refine Plan.storeU (j := i_54) (X := (((m55 i_54) ^^^ ((((m55 i_54) ^^^ (m55 (i_54 + 1))) ^^^ (m55 (i_54 + 2))) ^^^ (m55 (i_54 + 3)))) ^^^ (ct5 (((m55 i_54) ^^^ (m55 (i_54 + 1))).toNat)))) h70 4 rfl rfl rfl rfl (by omega) FAes.sz5 rfl fun w71 h71 => ?_
      simp only [List.cons_append, List.nil_append, List.set_cons_zero, List.set_cons_succ] at h71
      refine Plan.nil ?_
      refine hK69 _ _ ?_; clear hK69
      refine W.seq_k fun K72 hK72 => ?_
      refine W.regionD FAes.mixed [(0, true), (1, true), (2, true), (3, true), (4, true), (5, true), (6, true), (7, true), (8, true), (9, true), (10, true), (11, true), (12, true), (13, true), (14, true), (15, true), (16, false)] (by kernel_rfl) ?_
      have h73 := h71.drew
      refine Plan.move_ptr rfl rfl ?_
      refine Plan.move_int rfl rfl ?_
      refine Plan.addN (a := i_54) (b := 1) rfl rfl rfl (by omega) ?_
      refine Plan.move_int rfl rfl ?_
      refine Plan.move_int rfl rfl ?_
      refine Plan.xorU .u8 (X := (m55 (i_54 + 1))) (Y := ((((m55 i_54) ^^^ (m55 (i_54 + 1))) ^^^ (m55 (i_54 + 2))) ^^^ (m55 (i_54 + 3)))) rfl rfl rfl ?_
      refine Plan.move_ptr rfl rfl ?_
      refine Plan.move_int rfl rfl ?_
      refine Plan.move_int rfl rfl ?_
      refine Plan.xorU .u8 (X := (m55 (i_54 + 1))) (Y := (m55 (i_54 + 2))) rfl rfl rfl ?_
      refine Plan.nilCheck rfl rfl ?_
      refine Plan.idxArr1 (j := ((m55 (i_54 + 1)) ^^^ (m55 (i_54 + 2))).toNat) FAes.arr64 rfl rfl rfl ((m55 (i_54 + 1)) ^^^ (m55 (i_54 + 2))).isLt ?_
      refine Plan.load1 (j := ((m55 (i_54 + 1)) ^^^ (m55 (i_54 + 2))).toNat) h73 3 rfl rfl rfl (by omega) FAes.sc5 ?_
      refine Plan.xorU .u8 (X := ((m55 (i_54 + 1)) ^^^ ((((m55 i_54) ^^^ (m55 (i_54 + 1))) ^^^ (m55 (i_54 + 2))) ^^^ (m55 (i_54 + 3))))) (Y := (ct5 (((m55 (i_54 + 1)) ^^^ (m55 (i_54 + 2))).toNat))) rfl rfl rfl ?_
      refine Plan.nilCheck rfl rfl ?_
      obtain ⟨hc74, hR⟩ := hR
      refine Plan.idxArr1 (j := (i_54 + 1)) FAes.arr31 rfl rfl rfl hc74 ?_
      refine Plan.storeU (j := (i_54 + 1)) (X := (((m55 (i_54 + 1)) ^^^ ((((m55 i_54) ^^^ (m55 (i_54 + 1))) ^^^ (m55 (i_54 + 2))) ^^^ (m55 (i_54 + 3)))) ^^^ (ct5 (((m55 (i_54 + 1)) ^^^ (m55 (i_54 + 2))).toNat)))) h73 4 rfl rfl rfl rfl (by omega) FAes.sz5 rfl fun w75 h75 => ?_
      simp only [List.cons_append, List.nil_append, List.set_cons_zero, List.set_cons_succ] at h75
      refine Plan.nil ?_
      refine hK72 _ _ ?_; clear hK72
      refine W.seq_k fun K76 hK76 => ?_
      refine W.regionD FAes.mixed [(0, true), (1, true), (2, true), (3, true), (4, true), (5, true), (6, true), (7, true), (8, true), (9, true), (10, true), (11, true), (12, true), (13, true), (14, true), (15, true), (16, false)] (by kernel_rfl) ?_
      have h77 := h75.drew
      refine Plan.move_ptr rfl rfl ?_
      refine Plan.move_int rfl rfl ?_
      refine Plan.addN (a := i_54) (b := 2) rfl rfl rfl (by omega) ?_
      refine Plan.move_int rfl rfl ?_
      refine Plan.move_int rfl rfl ?_
      refine Plan.xorU .u8 (X := (m55 (i_54 + 2))) (Y := ((((m55 i_54) ^^^ (m55 (i_54 + 1))) ^^^ (m55 (i_54 + 2))) ^^^ (m55 (i_54 + 3)))) rfl rfl rfl ?_
      refine Plan.move_ptr rfl rfl ?_
      refine Plan.move_int rfl rfl ?_
      refine Plan.move_int rfl rfl ?_
      refine Plan.xorU .u8 (X := (m55 (i_54 + 2))) (Y := (m55 (i_54 + 3))) rfl rfl rfl ?_
      refine Plan.nilCheck rfl rfl ?_
      refine Plan.idxArr1 (j := ((m55 (i_54 + 2)) ^^^ (m55 (i_54 + 3))).toNat) FAes.arr64 rfl rfl rfl ((m55 (i_54 + 2)) ^^^ (m55 (i_54 + 3))).isLt ?_
      refine Plan.load1 (j := ((m55 (i_54 + 2)) ^^^ (m55 (i_54 + 3))).toNat) h77 3 rfl rfl rfl (by omega) FAes.sc5 ?_
      refine Plan.xorU .u8 (X := ((m55 (i_54 + 2)) ^^^ ((((m55 i_54) ^^^ (m55 (i_54 + 1))) ^^^ (m55 (i_54 + 2))) ^^^ (m55 (i_54 + 3))))) (Y := (ct5 (((m55 (i_54 + 2)) ^^^ (m55 (i_54 + 3))).toNat))) rfl rfl rfl ?_
      refine Plan.nilCheck rfl rfl ?_
      obtain ⟨hc78, hR⟩ := hR
      refine Plan.idxArr1 (j := (i_54 + 2)) FAes.arr31 rfl rfl rfl hc78 ?_
      refine Plan.storeU (j := (i_54 + 2)) (X := (((m55 (i_54 + 2)) ^^^ ((((m55 i_54) ^^^ (m55 (i_54 + 1))) ^^^ (m55 (i_54 + 2))) ^^^ (m55 (i_54 + 3)))) ^^^ (ct5 (((m55 (i_54 + 2)) ^^^ (m55 (i_54 + 3))).toNat)))) h77 4 rfl rfl rfl rfl (by omega) FAes.sz5 rfl fun w79 h79 => ?_
      simp only [List.cons_append, List.nil_append, List.set_cons_zero, List.set_cons_succ] at h79
      refine Plan.nil ?_
      refine hK76 _ _ ?_; clear hK76
      refine W.regionD FAes.mixed [(0, true), (1, true), (2, true), (3, true), (4, true), (5, true), (6, true), (7, true), (8, true), (9, true), (10, true), (11, true), (12, true), (13, true), (14, true), (15, true), (16, false)] (by kernel_rfl) ?_
      have h80 := h79.drew
      refine Plan.move_ptr rfl rfl ?_
      refine Plan.move_int rfl rfl ?_
      refine Plan.addN (a := i_54) (b := 3) rfl rfl rfl (by omega) ?_
      refine Plan.move_int rfl rfl ?_
      refine Plan.move_int rfl rfl ?_
      refine Plan.xorU .u8 (X := (m55 (i_54 + 3))) (Y := ((((m55 i_54) ^^^ (m55 (i_54 + 1))) ^^^ (m55 (i_54 + 2))) ^^^ (m55 (i_54 + 3)))) rfl rfl rfl ?_
      refine Plan.move_ptr rfl rfl ?_
      refine Plan.move_int rfl rfl ?_
      refine Plan.move_int rfl rfl ?_
      refine Plan.xorU .u8 (X := (m55 (i_54 + 3))) (Y := (m55 i_54)) rfl rfl rfl ?_
      refine Plan.nilCheck rfl rfl ?_
      refine Plan.idxArr1 (j := ((m55 (i_54 + 3)) ^^^ (m55 i_54)).toNat) FAes.arr64 rfl rfl rfl ((m55 (i_54 + 3)) ^^^ (m55 i_54)).isLt ?_
      refine Plan.load1 (j := ((m55 (i_54 + 3)) ^^^ (m55 i_54)).toNat) h80 3 rfl rfl rfl (by omega) FAes.sc5 ?_
      refine Plan.xorU .u8 (X := ((m55 (i_54 + 3)) ^^^ ((((m55 i_54) ^^^ (m55 (i_54 + 1))) ^^^ (m55 (i_54 + 2))) ^^^ (m55 (i_54 + 3))))) (Y := (ct5 (((m55 (i_54 + 3)) ^^^ (m55 i_54)).toNat))) rfl rfl rfl ?_
      refine Plan.nilCheck rfl rfl ?_
      obtain ⟨hc81, hR⟩ := hR
      refine Plan.idxArr1 (j := (i_54 + 3)) FAes.arr31 rfl rfl rfl hc81 ?_
      refine Plan.storeU (j := (i_54 + 3)) (X := (((m55 (i_54 + 3)) ^^^ ((((m55 i_54) ^^^ (m55 (i_54 + 1))) ^^^ (m55 (i_54 + 2))) ^^^ (m55 (i_54 + 3)))) ^^^ (ct5 (((m55 (i_54 + 3)) ^^^ (m55 i_54)).toNat)))) h80 4 rfl rfl rfl rfl (by omega) FAes.sz5 rfl fun w82 h82 => ?_
      simp only [List.cons_append, List.nil_append, List.set_cons_zero, List.set_cons_succ] at h82
      refine Plan.nil ?_
      refine blockR_norm ?_
      refine hK62 _ _ ?_; clear hK62
      refine W.regionT [(0, true), (1, true), (2, true)] (by kernel_rfl) ?_
      refine Plan.move_int rfl rfl ?_
      refine Plan.addN (a := i_54) (b := 4) rfl rfl rfl (by omega) ?_
      refine Plan.assign_int rfl rfl ?_
      refine Plan.nil ?_
      exact iterR_norm ⟨_, hR, (EnvHas.cons rfl (EnvHas.cons rfl (EnvHas.cons rfl EnvHas.nil))), h82⟩
    ·
      replace hR := ifF hR hc61
      refine W.condF (congrArg Value.bool (decide_eq_false hc61)) ?_
      refine W.exit (thenR_exit (iterR_exit (blockR_here ?_)))
      exact ⟨m55, (hx57 _ hR).symm, EnvHas.nil, h58⟩
  ·
    rintro ev83 wl83 ⟨y_m56, hy83, he83, h83⟩
    obtain ⟨ev83, rfl⟩ := he83.open
    subst hy83
    replace hR := hR057
    refine finR_norm ?_
    subst r
    refine RetOk.mk .nil ?_
    exact ⟨rfl, h83⟩


set_option maxRecDepth 8000 in
set_option maxHeartbeats 1000000 in
theorem aes_Cipher_Encrypt_ok {B : Nat} {w0 w : World} {L : List Rg} {bc1 : Nat} {ckeys2 : Nat → BitVec 8} {ct3 : Nat → BitVec 8} {ct4 : Nat → BitVec 8} {ct5 : Nat → BitVec 8} {block6 : Nat → BitVec 8} {r : (Nat → BitVec 8)} (hR : aes_Cipher_Encrypt ckeys2 ct3 ct4 ct5 block6 r) (HST : St B w0 (⟨some bc1, 0, 240, fun q => VU .u8 (ckeys2 q), true⟩ :: ⟨some bc1, 240, 256, fun q => VU .u8 (ct3 q), true⟩ :: ⟨some bc1, 496, 256, fun q => VU .u8 (ct4 q), true⟩ :: ⟨some bc1, 752, 256, fun q => VU .u8 (ct5 q), true⟩ :: L) w) :
    Calls Tryd.prog 35 #[.pointer (some ⟨bc1, 0, none⟩), AG [(16, fun q => VU .u8 (block6 q))]] w fun e w' => e = .returned (AG [(16, fun q => VU .u8 (r q))]) ∧ St B w0 (⟨some bc1, 0, 240, fun q => VU .u8 (ckeys2 q), true⟩ :: ⟨some bc1, 240, 256, fun q => VU .u8 (ct3 q), true⟩ :: ⟨some bc1, 496, 256, fun q => VU .u8 (ct4 q), true⟩ :: ⟨some bc1, 752, 256, fun q => VU .u8 (ct5 q), true⟩ :: L) w' := by
  refine W.enter 45 Tryd.func35 rfl rfl rfl ?_
  unfold aes_Cipher_Encrypt at hR
  refine W.seq_k fun K7 hK7 => ?_
  refine W.regionT [(0, false), (1, false)] (by kernel_rfl) ?_
  refine Plan.boxA HST rfl rfl PIn.nil fun b8 w8 hb8 h8 => ?_
  simp only [rngs, Nat.zero_add, Nat.reduceAdd, List.cons_append, List.nil_append] at h8
  refine Plan.alloc h8 rfl FAes.z31 PIn.nil fun b9 w9 hb9 h9 => ?_
  simp only [rngs, Nat.zero_add, Nat.reduceAdd, List.cons_append, List.nil_append] at h9
  refine Plan.nil ?_
  refine hK7 _ _ ?_; clear hK7
  refine W.seq_k fun K10 hK10 => ?_
  refine W.regionT [(0, true), (1, false), (2, false)] (by kernel_rfl) ?_
  refine Plan.loadA1 h9 1 rfl rfl rfl FAes.agg31 ?_
  refine Plan.alloc h9 rfl FAes.z31 (PIn.cons 1 rfl PIn.nil) fun b11 w11 hb11 h11 => ?_
  simp only [rngs, Nat.zero_add, Nat.reduceAdd, List.cons_append, List.nil_append] at h11
  refine Plan.storeA (f' := fun q => VU .u8 (block6 q)) h11 0 rfl rfl rfl rfl (fun _ _ => rfl) FAes.sz31 rfl fun w12 h12 => ?_
  simp only [List.cons_append, List.nil_append, List.set_cons_zero, List.set_cons_succ] at h12
  refine Plan.nil ?_
  refine hK10 _ _ ?_; clear hK10
  refine W.seq_k fun K13 hK13 => ?_
  refine W.regionT [(0, true), (1, false)] (by kernel_rfl) ?_
  refine Plan.move_ptr rfl rfl ?_
  have h14 := St.pickT (C := [_, _, _, _, _, _, _]) h12 [3, 4, 5, 6, 0, 1, 2] (by decide)
  simp only [pick, List.filterMap_cons, List.filterMap_nil, List.getElem?_cons_zero, List.getElem?_cons_succ, List.cons_append, List.nil_append] at h14
  obtain ⟨x_16, hr15, hR⟩ := hR
  refine Plan.call (vs := [.pointer (some ⟨bc1, 0, none⟩), .pointer (some ⟨b11, 0, none⟩), VN 0]) rfl FAes.call51 rfl (aes_Cipher_add_ok  hr15 h14) ?_
  rintro _ w17 ⟨rfl, h17⟩
  refine ⟨_, rfl, .inl ⟨PIn.keep PIn.nil h17, ?_⟩⟩
  refine Plan.nil ?_
  refine hK13 _ _ ?_; clear hK13
  refine W.seq_k fun K18 hK18 => ?_
  refine W.seq_k fun K19 hK19 => ?_
  refine W.regionT [(0, true)] (by kernel_rfl) ?_
  refine Plan.assign_int rfl rfl ?_
  refine Plan.nil ?_
  refine hK19 _ _ ?_; clear hK19
  obtain ⟨m144, hI145, hR0145⟩ := hR
  refine W.cutN (fun e w => ∃ y_m144 : Nat → BitVec 8, m144 = y_m144 ∧ EnvHas e [(4, .pointer (some ⟨b9, 0, none⟩)), (5, .pointer (some ⟨b11, 0, none⟩))] ∧ St B w0 (⟨some bc1, 0, 240, fun q => VU .u8 (ckeys2 q), true⟩ :: ⟨some bc1, 240, 256, fun q => VU .u8 (ct3 q), true⟩ :: ⟨some bc1, 496, 256, fun q => VU .u8 (ct4 q), true⟩ :: ⟨some bc1, 752, 256, fun q => VU .u8 (ct5 q), true⟩ :: ⟨some b11, 0, 16, fun q => VU .u8 (y_m144 q), true⟩ :: ⟨some b9, 0, 16, fun q => VU .u8 ((fun _ => 0#8) q), true⟩ :: L) w) ?_ ?_
  ·
    refine W.block ?_
    have h146 := St.pickT (C := [_, _, _, _, _, _, _]) h17 [0, 1, 2, 3, 4, 5] (by decide)
    simp only [pick, List.filterMap_cons, List.filterMap_nil, List.getElem?_cons_zero, List.getElem?_cons_succ, List.cons_append, List.nil_append] at h146
    refine W.iter hI145 (fun (s145 : (Nat × (Nat → BitVec 8))) e w => EnvHas e [(0, .pointer (some ⟨bc1, 0, none⟩)), (4, .pointer (some ⟨b9, 0, none⟩)), (5, .pointer (some ⟨b11, 0, none⟩)), (6, VN s145.1)] ∧ St B w0 (⟨some bc1, 0, 240, fun q => VU .u8 (ckeys2 q), true⟩ :: ⟨some bc1, 240, 256, fun q => VU .u8 (ct3 q), true⟩ :: ⟨some bc1, 496, 256, fun q => VU .u8 (ct4 q), true⟩ :: ⟨some bc1, 752, 256, fun q => VU .u8 (ct5 q), true⟩ :: ⟨some b11, 0, 16, fun q => VU .u8 (s145.2 q), true⟩ :: ⟨some b9, 0, 16, fun q => VU .u8 ((fun _ => 0#8) q), true⟩ :: L) w) ⟨(EnvHas.cons rfl (EnvHas.cons rfl (EnvHas.cons rfl (EnvHas.cons rfl EnvHas.nil)))), h146⟩ ?_
    rintro ⟨round142, m143⟩ o145 hR hx145 ev147 wl147 ⟨he147, h147⟩
    obtain ⟨ev147, rfl⟩ := he147.open
    unfold aes_Cipher_Encrypt_l0 at hR
    refine W.seq_k fun K148 hK148 => ?_
    refine W.seq_k fun K149 hK149 => ?_
    refine W.regionT [(0, true), (1, true)] (by kernel_rfl) ?_
    refine Plan.move_int rfl rfl ?_
    refine Plan.cmpP (a := (((round142 : Nat) : Int) : Int)) (b := (14 : Int)) (p := round142 ≤ 14) rfl rfl rfl rfl icmp_leN ?_
    refine Plan.nil ?_
    refine hK149 _ _ ?_; clear hK149
    by_cases hc150 : round142 ≤ 14
    ·
      replace hR := ifT hR hc150
      refine W.condT (congrArg Value.bool (decide_eq_true hc150)) ?_
      refine W.skip ?_
      refine hK148 _ _ ?_; clear hK148
      refine W.seq_k fun K151 hK151 => ?_
      refine W.block ?_
      refine W.seq_k fun K152 hK152 => ?_
      refine W.regionT [(0, false)] (by kernel_rfl) ?_
      refine Plan.alloc h147 rfl FAes.z31 PIn.nil fun b153 w153 hb153 h153 => ?_
      simp only [rngs, Nat.zero_add, Nat.reduceAdd, List.cons_append, List.nil_append] at h153
      refine Plan.nil ?_
      refine hK152 _ _ ?_; clear hK152
      refine W.seq_k fun K154 hK154 => ?_
      refine W.seq_k fun K155 hK155 => ?_
      refine W.regionT [(0, true)] (by kernel_rfl) ?_
      refine Plan.move_int rfl rfl ?_
      refine Plan.nil ?_
      refine hK155 _ _ ?_; clear hK155
      obtain ⟨m174, hI175, hR0175⟩ := hR
      refine W.cutN (fun e w => ∃ y_m174 : Nat → BitVec 8, m174 = y_m174 ∧ EnvHas e [(0, .pointer (some ⟨bc1, 0, none⟩)), (4, .pointer (some ⟨b9, 0, none⟩)), (5, .pointer (some ⟨b11, 0, none⟩)), (6, VN round142), (7, .pointer (some ⟨b153, 0, none⟩))] ∧ St B w0 (⟨some b153, 0, 16, fun q => VU .u8 (y_m174 q), true⟩ :: ⟨some bc1, 0, 240, fun q => VU .u8 (ckeys2 q), true⟩ :: ⟨some bc1, 240, 256, fun q => VU .u8 (ct3 q), true⟩ :: ⟨some bc1, 496, 256, fun q => VU .u8 (ct4 q), true⟩ :: ⟨some bc1, 752, 256, fun q => VU .u8 (ct5 q), true⟩ :: ⟨some b11, 0, 16, fun q => VU .u8 (m143 q), true⟩ :: ⟨some b9, 0, 16, fun q => VU .u8 ((fun _ => 0#8) q), true⟩ :: L) w) ?_ ?_
      ·
        refine W.block ?_
        refine W.iter hI175 (fun (s175 : (Nat × (Nat → BitVec 8))) e w => EnvHas e [(0, .pointer (some ⟨bc1, 0, none⟩)), (4, .pointer (some ⟨b9, 0, none⟩)), (5, .pointer (some ⟨b11, 0, none⟩)), (6, VN round142), (7, .pointer (some ⟨b153, 0, none⟩)), (16, VN s175.1)] ∧ St B w0 (⟨some b153, 0, 16, fun q => VU .u8 (s175.2 q), true⟩ :: ⟨some bc1, 0, 240, fun q => VU .u8 (ckeys2 q), true⟩ :: ⟨some bc1, 240, 256, fun q => VU .u8 (ct3 q), true⟩ :: ⟨some bc1, 496, 256, fun q => VU .u8 (ct4 q), true⟩ :: ⟨some bc1, 752, 256, fun q => VU .u8 (ct5 q), true⟩ :: ⟨some b11, 0, 16, fun q => VU .u8 (m143 q), true⟩ :: ⟨some b9, 0, 16, fun q => VU .u8 ((fun _ => 0#8) q), true⟩ :: L) w) ⟨(EnvHas.cons rfl (EnvHas.cons rfl (EnvHas.cons rfl (EnvHas.cons rfl (EnvHas.cons rfl (EnvHas.cons rfl EnvHas.nil)))))), h153⟩ ?_
        rintro ⟨t172, m173⟩ o175 hR hx175 ev176 wl176 ⟨he176, h176⟩
        obtain ⟨ev176, rfl⟩ := he176.open
        unfold aes_Cipher_Encrypt_l1 at hR
        refine W.seq_k fun K177 hK177 => ?_
        refine W.regionT [(0, true)] (by kernel_rfl) ?_
        refine Plan.cmpP (a := (((t172 : Nat) : Int) : Int)) (b := (16 : Int)) (p := t172 < 16) rfl rfl rfl rfl icmp_ltN ?_
        refine Plan.nil ?_
        refine hK177 _ _ ?_; clear hK177
        refine W.seq_k fun K178 hK178 => ?_
        by_cases hc179 : t172 < 16
        ·
          replace hR := ifT hR hc179
          refine W.condT (congrArg Value.bool (decide_eq_true hc179)) ?_
          refine W.skip ?_
          refine hK178 _ _ ?_; clear hK178
          refine W.seq_k fun K180 hK180 => ?_
          refine W.block ?_
          refine W.seq_k fun K181 hK181 => ?_
          refine W.regionT [(0, true), (1, true)] (by kernel_rfl) ?_
          refine Plan.move_int rfl rfl ?_
          refine Plan.assign_int rfl rfl ?_
          refine Plan.nil ?_
          refine hK181 _ _ ?_; clear hK181
          refine W.regionD FAes.mixed [(0, true), (1, true), (2, true), (3, true), (4, true), (5, true), (6, true), (7, true), (8, true), (9, true), (10, true), (11, true), (12, true), (13, true), (14, true), (15, true), (16, false)] (by kernel_rfl) ?_
          have h182 := h176.drew
          refine Plan.move_int rfl rfl ?_
          refine Plan.move_ptr rfl rfl ?_
          refine Plan.move_int rfl rfl ?_
          refine Plan.move_int rfl rfl ?_
          refine Plan.remN (a := t172) (b := 4) rfl rfl rfl (by omega) ?_
          refine Plan.mulN (a := 4) (b := (t172 % 4)) rfl rfl rfl (by omega) ?_
          refine Plan.addN (a := t172) (b := (4 * (t172 % 4))) rfl rfl rfl (by omega) ?_
          refine Plan.remN (a := (t172 + (4 * (t172 % 4)))) (b := 16) rfl rfl rfl (by omega) ?_
          refine Plan.idxArr1 (j := ((t172 + (4 * (t172 % 4))) % 16)) FAes.arr31 rfl rfl rfl (by omega) ?_
          refine Plan.load1 (j := ((t172 + (4 * (t172 % 4))) % 16)) h182 5 rfl rfl rfl (by omega) FAes.sc5 ?_
          refine Plan.nilCheck rfl rfl ?_
          refine Plan.fieldAddr 240 FAes.fld70_1 rfl rfl ?_
          refine Plan.fieldAddr0 FAes.fld66_0 rfl rfl ?_
          refine Plan.idxArr1 (j := (m143 ((t172 + (4 * (t172 % 4))) % 16)).toNat) FAes.arr64 rfl rfl rfl (m143 ((t172 + (4 * (t172 % 4))) % 16)).isLt ?_
          refine Plan.load1 (j := (m143 ((t172 + (4 * (t172 % 4))) % 16)).toNat) h182 2 rfl rfl rfl (by omega) FAes.sc5 ?_
          refine Plan.idxArr1 (j := t172) FAes.arr31 rfl rfl rfl (by omega) ?_
          refine Plan.storeU (j := t172) (X := (ct3 ((m143 ((t172 + (4 * (t172 % 4))) % 16)).toNat))) h182 0 rfl rfl rfl rfl (by omega) FAes.sz5 rfl fun w183 h183 => ?_
          simp only [List.cons_append, List.nil_append, List.set_cons_zero, List.set_cons_succ] at h183
          refine Plan.nil ?_
          refine blockR_norm ?_
          refine hK180 _ _ ?_; clear hK180
          refine W.regionT [(0, true), (1, true)] (by kernel_rfl) ?_
          refine Plan.addN (a := t172) (b := 1) rfl rfl rfl (by omega) ?_
          refine Plan.move_int rfl rfl ?_
          refine Plan.nil ?_
          exact iterR_norm ⟨_, hR, (EnvHas.cons rfl (EnvHas.cons rfl (EnvHas.cons rfl (EnvHas.cons rfl (EnvHas.cons rfl (EnvHas.cons rfl EnvHas.nil)))))), h183⟩
        ·
          replace hR := ifF hR hc179
          refine W.condF (congrArg Value.bool (decide_eq_false hc179)) ?_
          refine W.exit (thenR_exit (iterR_exit (blockR_here ?_)))
          exact ⟨m173, (hx175 _ hR).symm, (EnvHas.cons rfl (EnvHas.cons rfl (EnvHas.cons rfl (EnvHas.cons rfl (EnvHas.cons rfl EnvHas.nil))))), h176⟩
      ·
        rintro ev184 wl184 ⟨y_m174, hy184, he184, h184⟩
        obtain ⟨ev184, rfl⟩ := he184.open
        subst hy184
        replace hR := hR0175
        refine hK154 _ _ ?_; clear hK154
        refine W.seq_k fun K185 hK185 => ?_
        obtain ⟨m192, hX193, hR0193⟩ := hR
        refine W.cutN (fun e w => ∃ y_m192 : Nat → BitVec 8, (m192 = y_m192) ∧ EnvHas e [(0, .pointer (some ⟨bc1, 0, none⟩)), (4, .pointer (some ⟨b9, 0, none⟩)), (5, .pointer (some ⟨b11, 0, none⟩)), (6, VN round142), (7, .pointer (some ⟨b153, 0, none⟩))] ∧ St B w0 (⟨some bc1, 0, 240, fun q => VU .u8 (ckeys2 q), true⟩ :: ⟨some bc1, 240, 256, fun q => VU .u8 (ct3 q), true⟩ :: ⟨some bc1, 496, 256, fun q => VU .u8 (ct4 q), true⟩ :: ⟨some bc1, 752, 256, fun q => VU .u8 (ct5 q), true⟩ :: ⟨some b153, 0, 16, fun q => VU .u8 (y_m192 q), true⟩ :: ⟨some b11, 0, 16, fun q => VU .u8 (m143 q), true⟩ :: ⟨some b9, 0, 16, fun q => VU .u8 ((fun _ => 0#8) q), true⟩ :: L) w) ?_ ?_
        ·
          replace hR := hX193
          refine W.seq_k fun K194 hK194 => ?_
          refine W.regionT [(0, true), (1, true)] (by kernel_rfl) ?_
          refine Plan.move_int rfl rfl ?_
          refine Plan.cmpP (a := (((round142 : Nat) : Int) : Int)) (b := (14 : Int)) (p := round142 < 14) rfl rfl rfl rfl icmp_ltN ?_
          refine Plan.nil ?_
          refine hK194 _ _ ?_; clear hK194
          by_cases hc195 : round142 < 14
          ·
            replace hR := ifT hR hc195
            refine W.condT (congrArg Value.bool (decide_eq_true hc195)) ?_
            refine W.regionT [(0, true), (1, false)] (by kernel_rfl) ?_
            refine Plan.move_ptr rfl rfl ?_
            have h196 := St.pickT (C := [_, _, _, _, _, _, _]) h184 [1, 2, 3, 4, 0, 5, 6] (by decide)
            simp only [pick, List.filterMap_cons, List.filterMap_nil, List.getElem?_cons_zero, List.getElem?_cons_succ, List.cons_append, List.nil_append] at h196
            obtain ⟨x_198, hr197, hR⟩ := hR
            refine Plan.call (vs := [.pointer (some ⟨bc1, 0, none⟩), .pointer (some ⟨b153, 0, none⟩)]) rfl FAes.call52 rfl (aes_Cipher_mix_ok  hr197 h196) ?_
            rintro _ w199 ⟨rfl, h199⟩
            refine ⟨_, rfl, .inl ⟨PIn.keep PIn.nil h199, ?_⟩⟩
            refine Plan.nil ?_
            exact ⟨x_198, hR, (EnvHas.cons rfl (EnvHas.cons rfl (EnvHas.cons rfl (EnvHas.cons rfl (EnvHas.cons rfl EnvHas.nil))))), h199⟩
          ·
            replace hR := ifF hR hc195
            refine W.condF (congrArg Value.bool (decide_eq_false hc195)) ?_
            refine W.skip ?_
            have h200 := St.pickT (C := [_, _, _, _, _, _, _]) h184 [1, 2, 3, 4, 0, 5, 6] (by decide)
            simp only [pick, List.filterMap_cons, List.filterMap_nil, List.getElem?_cons_zero, List.getElem?_cons_succ, List.cons_append, List.nil_append] at h200
            exact ⟨m174, hR, (EnvHas.cons rfl (EnvHas.cons rfl (EnvHas.cons rfl (EnvHas.cons rfl (EnvHas.cons rfl EnvHas.nil))))), h200⟩
        ·
          rintro ev201 wl201 ⟨y_m192, hy201_0, he201, h201⟩
          subst hy201_0
          obtain ⟨ev201, rfl⟩ := he201.open
          replace hR := hR0193
          refine hK185 _ _ ?_; clear hK185
          refine W.seq_k fun K202 hK202 => ?_
          refine W.regionT [(0, true), (1, false)] (by kernel_rfl) ?_
          refine Plan.loadA1 h201 4 rfl rfl rfl FAes.agg31 ?_
          refine Plan.storeA (f' := fun q => VU .u8 (m192 q)) h201 5 rfl rfl rfl rfl (fun _ _ => rfl) FAes.sz31 rfl fun w203 h203 => ?_
          simp only [List.cons_append, List.nil_append, List.set_cons_zero, List.set_cons_succ] at h203
          refine Plan.nil ?_
          refine hK202 _ _ ?_; clear hK202
          refine W.regionT [(0, true), (1, true), (2, false)] (by kernel_rfl) ?_
          refine Plan.move_ptr rfl rfl ?_
          refine Plan.move_int rfl rfl ?_
          have h204 := St.pickT (C := [_, _, _, _, _, _, _]) h203 [0, 1, 2, 3, 5, 4, 6] (by decide)
          simp only [pick, List.filterMap_cons, List.filterMap_nil, List.getElem?_cons_zero, List.getElem?_cons_succ, List.cons_append, List.nil_append] at h204
          obtain ⟨x_206, hr205, hR⟩ := hR
          refine Plan.call (vs := [.pointer (some ⟨bc1, 0, none⟩), .pointer (some ⟨b11, 0, none⟩), VN round142]) rfl FAes.call51 rfl (aes_Cipher_add_ok  hr205 h204) ?_
          rintro _ w207 ⟨rfl, h207⟩
          refine ⟨_, rfl, .inl ⟨PIn.keep PIn.nil h207, ?_⟩⟩
          refine Plan.nil ?_
          refine blockR_norm ?_
          refine hK151 _ _ ?_; clear hK151
          refine W.regionT [(0, true), (1, true), (2, true)] (by kernel_rfl) ?_
          refine Plan.move_int rfl rfl ?_
          refine Plan.addN (a := round142) (b := 1) rfl rfl rfl (by omega) ?_
          refine Plan.assign_int rfl rfl ?_
          refine Plan.nil ?_
          have h208 := St.pickT (C := [_, _, _, _, _, _, _]) h207 [0, 1, 2, 3, 4, 6] (by decide)
          simp only [pick, List.filterMap_cons, List.filterMap_nil, List.getElem?_cons_zero, List.getElem?_cons_succ, List.cons_append, List.nil_append] at h208
          exact iterR_norm ⟨_, hR, (EnvHas.cons rfl (EnvHas.cons rfl (EnvHas.cons rfl (EnvHas.cons rfl EnvHas.nil)))), h208⟩
    ·
      replace hR := ifF hR hc150
      refine W.condF (congrArg Value.bool (decide_eq_false hc150)) ?_
      refine W.exit (thenR_exit (iterR_exit (blockR_here ?_)))
      exact ⟨m143, (hx145 _ hR).symm, (EnvHas.cons rfl (EnvHas.cons rfl EnvHas.nil)), h147⟩
  ·
    rintro ev209 wl209 ⟨y_m144, hy209, he209, h209⟩
    obtain ⟨ev209, rfl⟩ := he209.open
    subst hy209
    replace hR := hR0145
    refine hK18 _ _ ?_; clear hK18
    refine W.seq_k fun K210 hK210 => ?_
    refine W.regionT [(0, true), (1, false)] (by kernel_rfl) ?_
    refine Plan.loadA1 h209 4 rfl rfl rfl FAes.agg31 ?_
    refine Plan.storeA (f' := fun q => VU .u8 (m144 q)) h209 5 rfl rfl rfl rfl (fun _ _ => rfl) FAes.sz31 rfl fun w211 h211 => ?_
    simp only [List.cons_append, List.nil_append, List.set_cons_zero, List.set_cons_succ] at h211
    refine Plan.nil ?_
    refine hK210 _ _ ?_; clear hK210
    refine W.ret (finR_ret ?_)
    have h212 := St.pickT (C := [_, _, _, _, _, _]) h211 [0, 1, 2, 3] (by decide)
    simp only [pick, List.filterMap_cons, List.filterMap_nil, List.getElem?_cons_zero, List.getElem?_cons_succ, List.cons_append, List.nil_append] at h212
    subst r
    refine RetOk.mk (.agg h211 rfl (.cons 5 rfl .nil) FAes.agg31 .nil) ?_
    exact ⟨rfl, h212⟩


set_option maxRecDepth 8000 in
set_option maxHeartbeats 1000000 in
theorem aes_Next_ok {B : Nat} {w0 w : World} {L : List Rg} {block1 : Nat → BitVec 8} {n_2 : BitVec 64} {r : (Nat → BitVec 8)} (hR : aes_Next block1 n_2 r) (HST : St B w0 (L) w) :
    Calls Tryd.prog 36 #[AG [(16, fun q => VU .u8 (block1 q))], VU .u64 n_2] w fun e w' => e = .returned (AG [(16, fun q => VU .u8 (r q))]) ∧ St B w0 (L) w' := by
  refine W.enter 30 Tryd.func36 rfl rfl rfl ?_
  unfold aes_Next at hR
  refine W.seq_k fun K3 hK3 => ?_
  refine W.regionT [(0, false), (1, false)] (by kernel_rfl) ?_
  refine Plan.boxA HST rfl rfl PIn.nil fun b4 w4 hb4 h4 => ?_
  simp only [rngs, Nat.zero_add, Nat.reduceAdd, List.cons_append, List.nil_append] at h4
  refine Plan.alloc h4 rfl FAes.z31 PIn.nil fun b5 w5 hb5 h5 => ?_
  simp only [rngs, Nat.zero_add, Nat.reduceAdd, List.cons_append, List.nil_append] at h5
  refine Plan.nil ?_
  refine hK3 _ _ ?_; clear hK3
  refine W.seq_k fun K6 hK6 => ?_
  refine W.regionT [(0, true)] (by kernel_rfl) ?_
  refine Plan.assign_int rfl rfl ?_
  refine Plan.nil ?_
  refine hK6 _ _ ?_; clear hK6
  refine W.seq_k fun K7 hK7 => ?_
  refine W.seq_k fun K8 hK8 => ?_
  refine W.regionT [(0, true)] (by kernel_rfl) ?_
  refine Plan.assign_int rfl rfl ?_
  refine Plan.nil ?_
  refine hK8 _ _ ?_; clear hK8
  obtain ⟨m51, hI52, hR052⟩ := hR
  refine W.cutN (fun e w => ∃ y_m51 : Nat → BitVec 8, m51 = y_m51 ∧ EnvHas e [(2, .pointer (some ⟨b4, 0, none⟩)), (4, .pointer (some ⟨b5, 0, none⟩))] ∧ St B w0 (⟨some b5, 0, 16, fun q => VU .u8 ((fun _ => 0#8) q), true⟩ :: ⟨some b4, 0, 16, fun q => VU .u8 (y_m51 q), true⟩ :: L) w) ?_ ?_
  ·
    refine W.block ?_
    refine W.iter hI52 (fun (s52 : ((BitVec 64) × (BitVec 64) × Int × (Nat → BitVec 8))) e w => EnvHas e [(1, VU .u64 s52.1), (2, .pointer (some ⟨b4, 0, none⟩)), (4, .pointer (some ⟨b5, 0, none⟩)), (5, VU .u64 s52.2.1), (6, .int .i64 s52.2.2.1)] ∧ St B w0 (⟨some b5, 0, 16, fun q => VU .u8 ((fun _ => 0#8) q), true⟩ :: ⟨some b4, 0, 16, fun q => VU .u8 (s52.2.2.2 q), true⟩ :: L) w) ⟨(EnvHas.cons rfl (EnvHas.cons rfl (EnvHas.cons rfl (EnvHas.cons rfl (EnvHas.cons rfl EnvHas.nil))))), h5⟩ ?_
    rintro ⟨n_47, carry48, i_49, m50⟩ o52 hR hx52 ev53 wl53 ⟨he53, h53⟩
    obtain ⟨ev53, rfl⟩ := he53.open
    unfold aes_Next_l0 at hR
    refine W.seq_k fun K54 hK54 => ?_
    refine W.seq_k fun K55 hK55 => ?_
    refine W.regionT [(0, true), (1, true)] (by kernel_rfl) ?_
    refine Plan.move_int rfl rfl ?_
    refine Plan.cmpP (a := (i_49 : Int)) (b := (0 : Int)) (p := 0 ≤ i_49) rfl rfl rfl rfl icmp_ge ?_
    refine Plan.nil ?_
    refine hK55 _ _ ?_; clear hK55
    by_cases hc56 : 0 ≤ i_49
    ·
      replace hR := ifT hR hc56
      refine W.condT (congrArg Value.bool (decide_eq_true hc56)) ?_
      refine W.skip ?_
      refine hK54 _ _ ?_; clear hK54
      refine W.seq_k fun K57 hK57 => ?_
      refine W.block ?_
      refine W.seq_k fun K58 hK58 => ?_
      refine W.regionT [(0, true), (1, true), (2, true), (3, true), (4, true), (5, true), (6, true), (7, true), (8, true), (9, true)] (by kernel_rfl) ?_
      refine Plan.move_int rfl rfl ?_
      obtain ⟨hc59, hR⟩ := hR
      refine Plan.idxArr1 (j := i_49.toNat) FAes.arr31 rfl rfl (congrArg (Value.int .i64) (Int.toNat_of_nonneg hc59.1).symm) (by omega) ?_
      refine Plan.load1 (j := i_49.toNat) h53 1 rfl rfl rfl (by omega) FAes.sc5 ?_
      refine Plan.convUU .u64 (X := (m50 i_49.toNat)) FAes.u73 FAes.some5 rfl rfl ?_
      refine Plan.move_int rfl rfl ?_
      refine Plan.andU .u64 (X := n_47) (Y := 255#64) rfl rfl rfl ?_
      refine Plan.addU .u64 (X := ((m50 i_49.toNat).setWidth 64)) (Y := (n_47 &&& (255#64))) rfl rfl rfl ?_
      refine Plan.move_int rfl rfl ?_
      refine Plan.addU .u64 (X := (((m50 i_49.toNat).setWidth 64) + (n_47 &&& (255#64)))) (Y := carry48) rfl rfl rfl ?_
      refine Plan.assign_int rfl rfl ?_
      refine Plan.nil ?_
      refine hK58 _ _ ?_; clear hK58
      refine W.seq_k fun K60 hK60 => ?_
      refine W.regionT [(0, true), (1, true), (2, true), (3, true), (4, false)] (by kernel_rfl) ?_
      refine Plan.move_int rfl rfl ?_
      refine Plan.move_int rfl rfl ?_
      refine Plan.convUU .u8 (X := ((((m50 i_49.toNat).setWidth 64) + (n_47 &&& (255#64))) + carry48)) FAes.u5 FAes.some73 rfl rfl ?_
      obtain ⟨hc61, hR⟩ := hR
      refine Plan.idxArr1 (j := i_49.toNat) FAes.arr31 rfl rfl (congrArg (Value.int .i64) (Int.toNat_of_nonneg hc61.1).symm) (by omega) ?_
      refine Plan.storeU (j := i_49.toNat) (X := (((((m50 i_49.toNat).setWidth 64) + (n_47 &&& (255#64))) + carry48).setWidth 8)) h53 1 rfl rfl rfl rfl (by omega) FAes.sz5 rfl fun w62 h62 => ?_
      simp only [List.cons_append, List.nil_append, List.set_cons_zero, List.set_cons_succ] at h62
      refine Plan.nil ?_
      refine hK60 _ _ ?_; clear hK60
      refine W.seq_k fun K63 hK63 => ?_
      refine W.regionT [(0, true), (1, true), (2, true)] (by kernel_rfl) ?_
      refine Plan.move_int rfl rfl ?_
      refine Plan.shrU .u64 (X := ((((m50 i_49.toNat).setWidth 64) + (n_47 &&& (255#64))) + carry48)) (c := 8) rfl rfl rfl ?_
      refine Plan.assign_int rfl rfl ?_
      refine Plan.nil ?_
      refine hK63 _ _ ?_; clear hK63
      refine W.regionT [(0, true), (1, true), (2, true)] (by kernel_rfl) ?_
      refine Plan.move_int rfl rfl ?_
      refine Plan.shrU .u64 (X := n_47) (c := 8) rfl rfl rfl ?_
      refine Plan.assign_int rfl rfl ?_
      refine Plan.nil ?_
      refine blockR_norm ?_
      refine hK57 _ _ ?_; clear hK57
      refine W.regionT [(0, true), (1, true), (2, true)] (by kernel_rfl) ?_
      refine Plan.move_int rfl rfl ?_
      obtain ⟨hc64, hR⟩ := hR
      refine Plan.subI (a := i_49) (b := 1) rfl rfl rfl (by omega) ?_
      refine Plan.assign_int rfl rfl ?_
      refine Plan.nil ?_
      exact iterR_norm ⟨_, hR, (EnvHas.cons rfl (EnvHas.cons rfl (EnvHas.cons rfl (EnvHas.cons rfl (EnvHas.cons rfl EnvHas.nil))))), h62⟩
    ·
      replace hR := ifF hR hc56
      refine W.condF (congrArg Value.bool (decide_eq_false hc56)) ?_
      refine W.exit (thenR_exit (iterR_exit (blockR_here ?_)))
      exact ⟨m50, (hx52 _ hR).symm, (EnvHas.cons rfl (EnvHas.cons rfl EnvHas.nil)), h53⟩
  ·
    rintro ev65 wl65 ⟨y_m51, hy65, he65, h65⟩
    obtain ⟨ev65, rfl⟩ := he65.open
    subst hy65
    replace hR := hR052
    refine hK7 _ _ ?_; clear hK7
    refine W.seq_k fun K66 hK66 => ?_
    refine W.regionT [(0, true), (1, false)] (by kernel_rfl) ?_
    refine Plan.loadA1 h65 1 rfl rfl rfl FAes.agg31 ?_
    refine Plan.storeA (f' := fun q => VU .u8 (m51 q)) h65 0 rfl rfl rfl rfl (fun _ _ => rfl) FAes.sz31 rfl fun w67 h67 => ?_
    simp only [List.cons_append, List.nil_append, List.set_cons_zero, List.set_cons_succ] at h67
    refine Plan.nil ?_
    refine hK66 _ _ ?_; clear hK66
    refine W.ret (finR_ret ?_)
    have h68 := St.pickT (C := [_, _]) h67 [] (by decide)
    simp only [pick, List.filterMap_cons, List.filterMap_nil, List.getElem?_cons_zero, List.getElem?_cons_succ, List.cons_append, List.nil_append] at h68
    subst r
    refine RetOk.mk (.agg h67 rfl (.cons 0 rfl .nil) FAes.agg31 .nil) ?_
    exact ⟨rfl, h68⟩


set_option maxRecDepth 8000 in
set_option maxHeartbeats 1000000 in
theorem aes_Cipher_Stream_ok {B : Nat} {w0 w : World} {L : List Rg} {bc1 : Nat} {ckeys2 : Nat → BitVec 8} {ct3 : Nat → BitVec 8} {ct4 : Nat → BitVec 8} {ct5 : Nat → BitVec 8} {first6 : Nat → BitVec 8} {text7 : List Byte} {atext7 : Option Addr} {ntext7 ctext7 itext7 : Nat} (htext7 : Bx L itext7 atext7 ntext7 ctext7 text7) {r : (List Byte)} (hR : aes_Cipher_Stream ckeys2 ct3 ct4 ct5 first6 text7 r) (HST : St B w0 (⟨some bc1, 0, 240, fun q => VU .u8 (ckeys2 q), true⟩ :: ⟨some bc1, 240, 256, fun q => VU .u8 (ct3 q), true⟩ :: ⟨some bc1, 496, 256, fun q => VU .u8 (ct4 q), true⟩ :: ⟨some bc1, 752, 256, fun q => VU .u8 (ct5 q), true⟩ :: L) w) :
    Calls Tryd.prog 20 #[.pointer (some ⟨bc1, 0, none⟩), AG [(16, fun q => VU .u8 (first6 q))], .slice atext7 ntext7 ctext7] w fun e w' => ∃ ay0 : Option Addr, ∃ py0 : Option Nat, ∃ ny0 : Nat, ∃ cy0 : Nat, ∃ Fy0 : Nat → Byte, e = .returned (.slice ay0 ny0 cy0) ∧ St B w0 (⟨py0, 0, cy0, fun q => VU .u8 (Fy0 q), true⟩ :: ⟨some bc1, 0, 240, fun q => VU .u8 (ckeys2 q), true⟩ :: ⟨some bc1, 240, 256, fun q => VU .u8 (ct3 q), true⟩ :: ⟨some bc1, 496, 256, fun q => VU .u8 (ct4 q), true⟩ :: ⟨some bc1, 752, 256, fun q => VU .u8 (ct5 q), true⟩ :: L) w' ∧ Ow ay0 py0 ny0 cy0 Fy0 r := by
  refine W.enter 45 Tryd.func20 rfl rfl rfl ?_
  unfold aes_Cipher_Stream at hR
  have etext7 := htext7.hl; subst etext7
  refine W.seq_k fun K8 hK8 => ?_
  refine W.regionT [(0, false), (1, true)] (by kernel_rfl) ?_
  refine Plan.boxA HST rfl rfl PIn.nil fun b9 w9 hb9 h9 => ?_
  simp only [rngs, Nat.zero_add, Nat.reduceAdd, List.cons_append, List.nil_append] at h9
  refine Plan.assign_slice rfl rfl ?_
  refine Plan.nil ?_
  refine hK8 _ _ ?_; clear hK8
  refine W.seq_k fun K10 hK10 => ?_
  refine W.regionT [(0, true), (1, false), (2, true)] (by kernel_rfl) ?_
  refine Plan.move_slice rfl rfl ?_
  have h11 := h9.nilR
  obtain ⟨hc13, hR⟩ := hR
  refine Plan.appendO (X := ([] : List Byte)) (Y := text7) h11 0 Ow.nil FAes.el24 FAes.sl24 rfl rfl rfl rfl (htext7.app [_, _, _, _, _, _]) hc13 (fun _ => EffO.keep PIn.nil) fun a12 pb12 cap12 F12 w12 ho12 h12 => ?_
  simp only [List.cons_append, List.nil_append, List.set_cons_zero, List.set_cons_succ] at h12
  refine Plan.assign_slice rfl rfl ?_
  refine Plan.nil ?_
  refine hK10 _ _ ?_; clear hK10
  refine W.seq_k fun K14 hK14 => ?_
  refine W.seq_k fun K15 hK15 => ?_
  refine W.regionT [(0, true)] (by kernel_rfl) ?_
  refine Plan.assign_int rfl rfl ?_
  refine Plan.nil ?_
  refine hK15 _ _ ?_; clear hK15
  obtain ⟨out145, hI146, hR0146⟩ := hR
  refine W.cutN (fun e w => ∃ y_out145 : List Byte, out145 = y_out145 ∧ ∃ aout145 : Option Addr, ∃ pout145 : Option Nat, ∃ cout145 : Nat, ∃ Fout145 : Nat → Byte, EnvHas e [(7, .slice aout145 ((([] : List Byte) ++ text7).length) cout145)] ∧ St B w0 (⟨pout145, 0, cout145, fun q => VU .u8 (Fout145 q), true⟩ :: ⟨some bc1, 0, 240, fun q => VU .u8 (ckeys2 q), true⟩ :: ⟨some bc1, 240, 256, fun q => VU .u8 (ct3 q), true⟩ :: ⟨some bc1, 496, 256, fun q => VU .u8 (ct4 q), true⟩ :: ⟨some bc1, 752, 256, fun q => VU .u8 (ct5 q), true⟩ :: L) w ∧ Ow aout145 pout145 ((([] : List Byte) ++ text7).length) cout145 Fout145 y_out145) ?_ ?_
  ·
    refine W.block ?_
    refine W.iter hI146 (fun (s146 : ((List Byte) × Nat × (Nat → BitVec 8))) e w => ∃ aout142 : Option Addr, ∃ pout142 : Option Nat, ∃ cout142 : Nat, ∃ Fout142 : Nat → Byte, EnvHas e [(0, .pointer (some ⟨bc1, 0, none⟩)), (4, .pointer (some ⟨b9, 0, none⟩)), (7, .slice aout142 ((([] : List Byte) ++ text7).length) cout142), (8, VN s146.2.1)] ∧ St B w0 (⟨pout142, 0, cout142, fun q => VU .u8 (Fout142 q), true⟩ :: ⟨some b9, 0, 16, fun q => VU .u8 (s146.2.2 q), true⟩ :: ⟨some bc1, 0, 240, fun q => VU .u8 (ckeys2 q), true⟩ :: ⟨some bc1, 240, 256, fun q => VU .u8 (ct3 q), true⟩ :: ⟨some bc1, 496, 256, fun q => VU .u8 (ct4 q), true⟩ :: ⟨some bc1, 752, 256, fun q => VU .u8 (ct5 q), true⟩ :: L) w ∧ Ow aout142 pout142 ((([] : List Byte) ++ text7).length) cout142 Fout142 s146.1) ⟨a12, pb12, cap12, F12, (EnvHas.cons rfl (EnvHas.cons rfl (EnvHas.cons rfl (EnvHas.cons rfl EnvHas.nil)))), h12, ho12⟩ ?_
    rintro ⟨out142, at_143, m144⟩ o146 hR hx146 ev147 wl147 ⟨aout142, pout142, cout142, Fout142, he147, h147, hout142⟩
    obtain ⟨ev147, rfl⟩ := he147.open
    unfold aes_Cipher_Stream_l0 at hR
    refine W.seq_k fun K148 hK148 => ?_
    refine W.seq_k fun K149 hK149 => ?_
    refine W.regionT [(0, true), (1, true), (2, true), (3, true)] (by kernel_rfl) ?_
    refine Plan.move_int rfl rfl ?_
    refine Plan.move_slice rfl rfl ?_
    refine Plan.len FAes.isl24 rfl rfl ?_
    refine Plan.cmpP (a := (((at_143 : Nat) : Int) : Int)) (b := ((((([] : List Byte) ++ text7).length : Nat) : Int) : Int)) (p := at_143 < (([] : List Byte) ++ text7).length) rfl rfl rfl rfl icmp_ltN ?_
    refine Plan.nil ?_
    refine hK149 _ _ ?_; clear hK149
    by_cases hc150 : at_143 < (([] : List Byte) ++ text7).length
    ·
      replace hR := ifT hR hc150
      refine W.condT (congrArg Value.bool (decide_eq_true hc150)) ?_
      refine W.skip ?_
      refine hK148 _ _ ?_; clear hK148
      refine W.seq_k fun K151 hK151 => ?_
      refine W.block ?_
      refine W.seq_k fun K152 hK152 => ?_
      refine W.regionT [(0, true), (1, true), (2, false), (3, false), (4, false)] (by kernel_rfl) ?_
      refine Plan.move_ptr rfl rfl ?_
      refine Plan.loadA1 h147 1 rfl rfl rfl FAes.agg31 ?_
      have h153 := St.pickT (C := [_, _, _, _, _, _]) h147 [2, 3, 4, 5, 0, 1] (by decide)
      simp only [pick, List.filterMap_cons, List.filterMap_nil, List.getElem?_cons_zero, List.getElem?_cons_succ, List.cons_append, List.nil_append] at h153
      obtain ⟨x_155, hr154, hR⟩ := hR
      refine Plan.call (vs := [.pointer (some ⟨bc1, 0, none⟩), AG [(16, fun q => VU .u8 (m144 q))]]) rfl FAes.call35 rfl (aes_Cipher_Encrypt_ok  hr154 h153) ?_
      rintro _ w156 ⟨rfl, h156⟩
      refine ⟨_, rfl, .inr ⟨rfl, ?_⟩⟩
      refine Plan.alloc h156 rfl FAes.z31 PIn.nil fun b157 w157 hb157 h157 => ?_
      simp only [rngs, Nat.zero_add, Nat.reduceAdd, List.cons_append, List.nil_append] at h157
      refine Plan.storeA (f' := fun q => VU .u8 (x_155 q)) h157 0 rfl rfl rfl rfl (fun _ _ => rfl) FAes.sz31 rfl fun w158 h158 => ?_
      simp only [List.cons_append, List.nil_append, List.set_cons_zero, List.set_cons_succ] at h158
      refine Plan.nil ?_
      refine hK152 _ _ ?_; clear hK152
      refine W.seq_k fun K159 hK159 => ?_
      refine W.seq_k fun K160 hK160 => ?_
      refine W.regionT [(0, true), (1, true), (2, true), (3, true), (4, true), (5, true)] (by kernel_rfl) ?_
      refine Plan.move_slice rfl rfl ?_
      refine Plan.len FAes.isl24 rfl rfl ?_
      refine Plan.move_int rfl rfl ?_
      obtain ⟨hc161, hR⟩ := hR
      refine Plan.subI (a := (((([] : List Byte) ++ text7).length : Nat) : Int)) (b := ((at_143 : Nat) : Int)) rfl rfl rfl (by omega) ?_
      refine Plan.minI (a := 16) (b := ((((([] : List Byte) ++ text7).length : Nat) : Int) - ((at_143 : Nat) : Int))) rfl rfl rfl ?_
      refine Plan.move_int rfl rfl ?_
      refine Plan.nil ?_
      refine hK160 _ _ ?_; clear hK160
      obtain ⟨out189, hI190, hR0190⟩ := hR
      refine W.cutN (fun e w => ∃ y_out189 : List Byte, out189 = y_out189 ∧ ∃ aout189 : Option Addr, ∃ pout189 : Option Nat, ∃ cout189 : Nat, ∃ Fout189 : Nat → Byte, EnvHas e [(0, .pointer (some ⟨bc1, 0, none⟩)), (4, .pointer (some ⟨b9, 0, none⟩)), (7, .slice aout189 ((([] : List Byte) ++ text7).length) cout189), (8, VN at_143)] ∧ St B w0 (⟨pout189, 0, cout189, fun q => VU .u8 (Fout189 q), true⟩ :: ⟨some bc1, 0, 240, fun q => VU .u8 (ckeys2 q), true⟩ :: ⟨some bc1, 240, 256, fun q => VU .u8 (ct3 q), true⟩ :: ⟨some bc1, 496, 256, fun q => VU .u8 (ct4 q), true⟩ :: ⟨some bc1, 752, 256, fun q => VU .u8 (ct5 q), true⟩ :: ⟨some b9, 0, 16, fun q => VU .u8 (m144 q), true⟩ :: L) w ∧ Ow aout189 pout189 ((([] : List Byte) ++ text7).length) cout189 Fout189 y_out189) ?_ ?_
      ·
        refine W.block ?_
        have h191 := St.pickT (C := [_, _, _, _, _, _, _]) h158 [5, 0, 1, 2, 3, 4, 6] (by decide)
        simp only [pick, List.filterMap_cons, List.filterMap_nil, List.getElem?_cons_zero, List.getElem?_cons_succ, List.cons_append, List.nil_append] at h191
        refine W.iter hI190 (fun (s190 : ((List Byte) × Nat)) e w => ∃ aout187 : Option Addr, ∃ pout187 : Option Nat, ∃ cout187 : Nat, ∃ Fout187 : Nat → Byte, EnvHas e [(0, .pointer (some ⟨bc1, 0, none⟩)), (4, .pointer (some ⟨b9, 0, none⟩)), (7, .slice aout187 ((([] : List Byte) ++ text7).length) cout187), (8, VN at_143), (9, .pointer (some ⟨b157, 0, none⟩)), (26, .int .i64 (min 16 ((((([] : List Byte) ++ text7).length : Nat) : Int) - ((at_143 : Nat) : Int)))), (27, VN s190.2)] ∧ St B w0 (⟨pout187, 0, cout187, fun q => VU .u8 (Fout187 q), true⟩ :: ⟨some b157, 0, 16, fun q => VU .u8 (x_155 q), true⟩ :: ⟨some bc1, 0, 240, fun q => VU .u8 (ckeys2 q), true⟩ :: ⟨some bc1, 240, 256, fun q => VU .u8 (ct3 q), true⟩ :: ⟨some bc1, 496, 256, fun q => VU .u8 (ct4 q), true⟩ :: ⟨some bc1, 752, 256, fun q => VU .u8 (ct5 q), true⟩ :: ⟨some b9, 0, 16, fun q => VU .u8 (m144 q), true⟩ :: L) w ∧ Ow aout187 pout187 ((([] : List Byte) ++ text7).length) cout187 Fout187 s190.1) ⟨aout142, pout142, cout142, Fout142, (EnvHas.cons rfl (EnvHas.cons rfl (EnvHas.cons rfl (EnvHas.cons rfl (EnvHas.cons rfl (EnvHas.cons rfl (EnvHas.cons rfl EnvHas.nil))))))), h191, hout142⟩ ?_
        rintro ⟨out187, t188⟩ o190 hR hx190 ev192 wl192 ⟨aout187, pout187, cout187, Fout187, he192, h192, hout187⟩
        obtain ⟨ev192, rfl⟩ := he192.open
        unfold aes_Cipher_Stream_l1 at hR
        refine W.seq_k fun K193 hK193 => ?_
        refine W.regionT [(0, true)] (by kernel_rfl) ?_
        refine Plan.cmpP (a := (((t188 : Nat) : Int) : Int)) (b := ((min 16 ((((([] : List Byte) ++ text7).length : Nat) : Int) - ((at_143 : Nat) : Int))) : Int)) (p := ((t188 : Nat) : Int) < (min 16 ((((([] : List Byte) ++ text7).length : Nat) : Int) - ((at_143 : Nat) : Int)))) rfl rfl rfl rfl icmp_lt ?_
        refine Plan.nil ?_
        refine hK193 _ _ ?_; clear hK193
        refine W.seq_k fun K194 hK194 => ?_
        by_cases hc195 : ((t188 : Nat) : Int) < (min 16 ((((([] : List Byte) ++ text7).length : Nat) : Int) - ((at_143 : Nat) : Int)))
        ·
          replace hR := ifT hR hc195
          refine W.condT (congrArg Value.bool (decide_eq_true hc195)) ?_
          refine W.skip ?_
          refine hK194 _ _ ?_; clear hK194
          refine W.seq_k fun K196 hK196 => ?_
          refine W.block ?_
          refine W.seq_k fun K197 hK197 => ?_
          refine W.regionT [(0, true), (1, true)] (by kernel_rfl) ?_
          refine Plan.move_int rfl rfl ?_
          refine Plan.assign_int rfl rfl ?_
          refine Plan.nil ?_
          refine hK197 _ _ ?_; clear hK197
          refine W.regionD FAes.mixed [(0, true), (1, true), (2, true), (3, true), (4, true), (5, true), (6, true), (7, true), (8, true), (9, true), (10, true), (11, false)] (by kernel_rfl) ?_
          have h198 := h192.drew
          refine Plan.move_slice rfl rfl ?_
          refine Plan.move_int rfl rfl ?_
          refine Plan.move_int rfl rfl ?_
          obtain ⟨hc199, hR⟩ := hR
          refine Plan.addN (a := at_143) (b := t188) rfl rfl rfl (by omega) ?_
          obtain ⟨hc200, hR⟩ := hR
          refine Plan.idxVS (j := (at_143 + t188)) h198 (hout187.bx 0 rfl) FAes.sl24 rfl rfl rfl hc200 ?_
          refine Plan.loadV (j := (at_143 + t188)) h198 (hout187.bx 0 rfl) rfl rfl hc200 FAes.sc5 fun r201 hr201 => ?_
          refine Plan.move_int rfl rfl ?_
          refine Plan.idxArr1 (j := t188) FAes.arr31 rfl rfl rfl (by omega) ?_
          refine Plan.load1 (j := t188) h198 1 rfl rfl rfl (by omega) FAes.sc5 ?_
          refine Plan.xorU .u8 (X := (lit out187 (at_143 + t188))) (Y := (x_155 t188)) rfl rfl rfl ?_
          obtain ⟨hc202, hR⟩ := hR
          refine Plan.idxVS (j := (at_143 + t188)) h198 (hout187.bx 0 rfl) FAes.sl24 rfl rfl rfl hc202 ?_
          refine Plan.storeO (j := (at_143 + t188)) (Y := ((lit out187 (at_143 + t188)) ^^^ (x_155 t188))) h198 0 hout187 rfl rfl rfl rfl hc202 FAes.sz5 rfl fun w203 F203 ho203 h203 => ?_
          simp only [List.cons_append, List.nil_append, List.set_cons_zero, List.set_cons_succ] at h203
          have e203 : (out187.set (at_143 + t188) ((lit out187 (at_143 + t188)) ^^^ (x_155 t188))).length = out187.length := List.length_set
          refine Plan.nil ?_
          refine blockR_norm ?_
          refine hK196 _ _ ?_; clear hK196
          refine W.regionT [(0, true), (1, true)] (by kernel_rfl) ?_
          refine Plan.addN (a := t188) (b := 1) rfl rfl rfl (by omega) ?_
          refine Plan.move_int rfl rfl ?_
          refine Plan.nil ?_
          exact iterR_norm ⟨_, hR, aout187, pout187, cout187, F203, (EnvHas.cons rfl (EnvHas.cons rfl (EnvHas.cons rfl (EnvHas.cons rfl (EnvHas.cons rfl (EnvHas.cons rfl (EnvHas.cons rfl EnvHas.nil))))))), h203, (show Ow _ _ ((([] : List Byte) ++ text7).length) _ _ _ from ho203)⟩
        ·
          replace hR := ifF hR hc195
          refine W.condF (congrArg Value.bool (decide_eq_false hc195)) ?_
          refine W.exit (thenR_exit (iterR_exit (blockR_here ?_)))
          have h204 := St.pickT (C := [_, _, _, _, _, _, _]) h192 [0, 2, 3, 4, 5, 6] (by decide)
          simp only [pick, List.filterMap_cons, List.filterMap_nil, List.getElem?_cons_zero, List.getElem?_cons_succ, List.cons_append, List.nil_append] at h204
          exact ⟨out187, (hx190 _ hR).symm, aout187, pout187, cout187, Fout187, (EnvHas.cons rfl (EnvHas.cons rfl (EnvHas.cons rfl (EnvHas.cons rfl EnvHas.nil)))), h204, hout187⟩
      ·
        rintro ev205 wl205 ⟨y_out189, hy205, aout189, pout189, cout189, Fout189, he205, h205, hout189⟩
        obtain ⟨ev205, rfl⟩ := he205.open
        subst hy205
        replace hR := hR0190
        refine hK159 _ _ ?_; clear hK159
        refine W.regionT [(0, true), (1, false), (2, false)] (by kernel_rfl) ?_
        refine Plan.loadA1 h205 5 rfl rfl rfl FAes.agg31 ?_
        obtain ⟨x_207, hr206, hR⟩ := hR
        refine Plan.call (vs := [AG [(16, fun q => VU .u8 (m144 q))], VU .u64 (1#64)]) rfl FAes.call36 rfl (aes_Next_ok  hr206 h205) ?_
        rintro _ w208 ⟨rfl, h208⟩
        refine ⟨_, rfl, .inr ⟨rfl, ?_⟩⟩
        refine Plan.storeA (f' := fun q => VU .u8 (x_207 q)) h208 5 rfl rfl rfl rfl (fun _ _ => rfl) FAes.sz31 rfl fun w209 h209 => ?_
        simp only [List.cons_append, List.nil_append, List.set_cons_zero, List.set_cons_succ] at h209
        refine Plan.nil ?_
        refine blockR_norm ?_
        refine hK151 _ _ ?_; clear hK151
        refine W.regionT [(0, true), (1, true), (2, true)] (by kernel_rfl) ?_
        refine Plan.move_int rfl rfl ?_
        obtain ⟨hc210, hR⟩ := hR
        refine Plan.addN (a := at_143) (b := 16) rfl rfl rfl (by omega) ?_
        refine Plan.assign_int rfl rfl ?_
        refine Plan.nil ?_
        have h211 := St.pickT (C := [_, _, _, _, _, _]) h209 [0, 5, 1, 2, 3, 4] (by decide)
        simp only [pick, List.filterMap_cons, List.filterMap_nil, List.getElem?_cons_zero, List.getElem?_cons_succ, List.cons_append, List.nil_append] at h211
        exact iterR_norm ⟨_, hR, aout189, pout189, cout189, Fout189, (EnvHas.cons rfl (EnvHas.cons rfl (EnvHas.cons rfl (EnvHas.cons rfl EnvHas.nil)))), h211, hout189⟩
    ·
      replace hR := ifF hR hc150
      refine W.condF (congrArg Value.bool (decide_eq_false hc150)) ?_
      refine W.exit (thenR_exit (iterR_exit (blockR_here ?_)))
      have h212 := St.pickT (C := [_, _, _, _, _, _]) h147 [0, 2, 3, 4, 5] (by decide)
      simp only [pick, List.filterMap_cons, List.filterMap_nil, List.getElem?_cons_zero, List.getElem?_cons_succ, List.cons_append, List.nil_append] at h212
      exact ⟨out142, (hx146 _ hR).symm, aout142, pout142, cout142, Fout142, (EnvHas.cons rfl EnvHas.nil), h212, hout142⟩
  ·
    rintro ev213 wl213 ⟨y_out145, hy213, aout145, pout145, cout145, Fout145, he213, h213, hout145⟩
    obtain ⟨ev213, rfl⟩ := he213.open
    subst hy213
    replace hR := hR0146
    refine hK14 _ _ ?_; clear hK14
    refine W.seq_k fun K214 hK214 => ?_
    refine W.regionT [(0, true), (1, true)] (by kernel_rfl) ?_
    refine Plan.move_slice rfl rfl ?_
    refine Plan.assign_slice rfl rfl ?_
    refine Plan.nil ?_
    refine hK214 _ _ ?_; clear hK214
    refine W.ret (finR_ret ?_)
    subst r
    refine RetOk.mk (.tmp_slice rfl .nil) ?_
    exact ⟨aout145, pout145, (([] : List Byte) ++ text7).length, cout145, Fout145, rfl, h213, hout145⟩

end Go.Proofs.YthjkmhdgenmnoaaDoor
