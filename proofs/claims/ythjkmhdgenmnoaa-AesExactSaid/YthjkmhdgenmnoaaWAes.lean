/-
 WALKS of the package's functions, printed by this session's own program (auto.py).
-/
import Derived.Test.YthjkmhdgenmnoaaProg
import Derived.Test.YthjkmhdgenmnoaaEc
import Derived.Test.YthjkmhdgenmnoaaRAes
import Derived.Test.YthjkmhdgenmnoaaEls
namespace Go.Proofs.Ythjkmhdgenmnoaa
set_option linter.unusedSimpArgs false
set_option linter.unusedVariables false
set_option linter.unusedSectionVars false
set_option maxRecDepth 8000
set_option maxHeartbeats 1000000
open Go Go.LW
theorem FAes.el28 : elD Try.prog 28 = some (1, 1, some (VU .u8 0#8)) := by kernel_rfl
theorem FAes.sl28 : slB Try.prog 28 1 = true := by kernel_rfl
theorem FAes.sz5 : szT Try.prog 5 1 = true := by kernel_rfl
theorem FAes.isl28 : ∃ el, Try.prog.underlying 28 = some (.slice el) := ⟨5, by kernel_rfl⟩
theorem FAes.z61 : zeroIs Try.prog 61 [(256, fun _ => VU .u8 0#8), (256, fun _ => VU .u8 0#8), (256, fun _ => VU .u8 0#8)] := zeroIs_agg (by kernel_rfl)
theorem FAes.row61 : rowB Try.prog 61 = true := by kernel_rfl
theorem FAes.sz61 : szT Try.prog 61 768 = true := by kernel_rfl
theorem FAes.mixed : Try.prog.follows .mixedOrders = true := by kernel_rfl
theorem FAes.fld61_0 : fieldB Try.prog 61 0 0 = true := by kernel_rfl
theorem FAes.arr59 : arrB Try.prog 59 256 1 = true := by kernel_rfl
theorem FAes.fld61_1 : fieldB Try.prog 61 1 256 = true := by kernel_rfl
theorem FAes.call39 : callB Try.prog 39 = true := by kernel_rfl
theorem FAes.call9 : callB Try.prog 9 = true := by kernel_rfl
theorem FAes.u5 : Try.prog.underlying 5 = some (.int .u8) := by kernel_rfl
theorem FAes.some3 : (Try.prog.underlying 3).isSome = true := by kernel_rfl
theorem FAes.fld61_2 : fieldB Try.prog 61 2 512 = true := by kernel_rfl
theorem FAes.agg61 : aggT Try.prog 61 768 = true := by kernel_rfl
theorem FAes.call23 : callB Try.prog 23 = true := by kernel_rfl
theorem FAes.pl67 : placesB Try.prog 67 [(0, 240), (240, 768)] = true := by kernel_rfl
theorem FAes.z67 : zeroIs Try.prog 67 [(240, fun _ => VU .u8 0#8), (256, fun _ => VU .u8 0#8), (256, fun _ => VU .u8 0#8), (256, fun _ => VU .u8 0#8)] := zeroIs_agg (by kernel_rfl)
theorem FAes.z77 : zeroIs Try.prog 77 [(240, fun _ => VU .u8 0#8)] := zeroIs_agg (by kernel_rfl)
theorem FAes.arr77 : arrB Try.prog 77 60 4 = true := by kernel_rfl
theorem FAes.arr76 : arrB Try.prog 76 4 1 = true := by kernel_rfl
theorem FAes.agg76 : aggT Try.prog 76 4 = true := by kernel_rfl
theorem FAes.z76 : zeroIs Try.prog 76 [(4, fun _ => VU .u8 0#8)] := zeroIs_agg (by kernel_rfl)
theorem FAes.sz76 : szT Try.prog 76 4 = true := by kernel_rfl
theorem FAes.sc5 : scalarT Try.prog 5 = true := by kernel_rfl
theorem FAes.fld67_1 : fieldB Try.prog 67 1 240 = true := by kernel_rfl
theorem FAes.agg77 : aggT Try.prog 77 240 = true := by kernel_rfl
theorem FAes.isarr77 : Try.prog.underlying 77 = some (.array 60 76) := by kernel_rfl
theorem FAes.fld67_0 : fieldB Try.prog 67 0 0 = true := by kernel_rfl
theorem FAes.arr65 : arrB Try.prog 65 15 16 = true := by kernel_rfl
theorem FAes.arr27 : arrB Try.prog 27 16 1 = true := by kernel_rfl
theorem FAes.call26 : callB Try.prog 26 = true := by kernel_rfl
theorem FAes.some5 : (Try.prog.underlying 5).isSome = true := by kernel_rfl
theorem FAes.agg27 : aggT Try.prog 27 16 = true := by kernel_rfl
theorem FAes.z27 : zeroIs Try.prog 27 [(16, fun _ => VU .u8 0#8)] := zeroIs_agg (by kernel_rfl)
theorem FAes.u29 : Try.prog.underlying 29 = some (.int .u64) := by kernel_rfl
theorem FAes.some29 : (Try.prog.underlying 29).isSome = true := by kernel_rfl
theorem FAes.sz27 : szT Try.prog 27 16 = true := by kernel_rfl
theorem FAes.call16 : callB Try.prog 16 = true := by kernel_rfl
theorem FAes.isarr27 : Try.prog.underlying 27 = some (.array 16 5) := by kernel_rfl
theorem FAes.call24 : callB Try.prog 24 = true := by kernel_rfl
theorem FAes.call25 : callB Try.prog 25 = true := by kernel_rfl
theorem FAes.call15 : callB Try.prog 15 = true := by kernel_rfl
theorem aes_fill_1_ok {B : Nat} {w0 w : World} {L : List Rg} {a1 : BitVec 8} {inverse2 : BitVec 8} {ba3 : Nat} {abox4 : Nat → BitVec 8} {aback5 : Nat → BitVec 8} {atwo6 : Nat → BitVec 8} {r : ((Nat → BitVec 8) × (Nat → BitVec 8))} (hR : aes_fill_1 a1 inverse2 abox4 aback5 atwo6 r) (HST : St B w0 (⟨some ba3, 0, 256, fun q => VU .u8 (abox4 q), true⟩ :: ⟨some ba3, 256, 256, fun q => VU .u8 (aback5 q), true⟩ :: ⟨some ba3, 512, 256, fun q => VU .u8 (atwo6 q), true⟩ :: L) w) :
  Calls Try.prog 39 #[VU .u8 a1, VU .u8 inverse2, .pointer (some ⟨ba3, 0, none⟩)] w fun e w' => e = .returned (.tuple #[]) ∧ St B w0 (⟨some ba3, 0, 256, fun q => VU .u8 (r.1 q), true⟩ :: ⟨some ba3, 256, 256, fun q => VU .u8 (r.2 q), true⟩ :: ⟨some ba3, 512, 256, fun q => VU .u8 (atwo6 q), true⟩ :: L) w' := by
 refine W.enter 32 Try.func39 rfl rfl rfl ?_
 unfold aes_fill_1 at hR
 refine W.seq_k fun _ k7 => W.regionT [(0, true), (1, true)] (by kernel_rfl) ?_
 refine Plan.move_int rfl rfl <| Plan.assign_int rfl rfl <| Plan.nil (k7 _ _ ?_); clear k7
 refine W.seq_k fun _ k8 => W.seq_k fun _ k9 => ?_
 refine W.regionT [(0, true)] (by kernel_rfl) ?_
 refine Plan.assign_int rfl rfl <| Plan.nil (k9 _ _ ?_); clear k9
 obtain ⟨x_23, hI24, hR024⟩ := hR
 refine W.cutN (fun e w => ∃ y_x_23 : BitVec 8, x_23 = y_x_23 ∧ EnvHas e [(0, VU .u8 a1), (2, .pointer (some ⟨ba3, 0, none⟩)), (5, VU .u8 y_x_23)] ∧ St B w0 (⟨some ba3, 0, 256, fun q => VU .u8 (abox4 q), true⟩ :: ⟨some ba3, 256, 256, fun q => VU .u8 (aback5 q), true⟩ :: ⟨some ba3, 512, 256, fun q => VU .u8 (atwo6 q), true⟩ :: L) w) ?_ ?_
 ·
  refine W.block ?_
  refine W.iter hI24 (fun (s24 : ((BitVec 8) × Nat)) e w => EnvHas e [(0, VU .u8 a1), (1, VU .u8 inverse2), (2, .pointer (some ⟨ba3, 0, none⟩)), (5, VU .u8 s24.1), (6, VN s24.2)] ∧ St B w0 (⟨some ba3, 0, 256, fun q => VU .u8 (abox4 q), true⟩ :: ⟨some ba3, 256, 256, fun q => VU .u8 (aback5 q), true⟩ :: ⟨some ba3, 512, 256, fun q => VU .u8 (atwo6 q), true⟩ :: L) w) ⟨(zer (zer (zer (zer (zer zen))))), HST⟩ ?_
  rintro ⟨x_21, turn22⟩ o24 hR hx24 ev25 wl25 ⟨he25, h25⟩
  obtain ⟨ev25, rfl⟩ := he25.open
  unfold aes_fill_1_l0 at hR
  refine W.seq_k fun _ k26 => W.seq_k fun _ k27 => ?_
  refine W.regionT [(0, true), (1, true)] (by kernel_rfl) ?_
  refine Plan.move_int rfl rfl <| Plan.cmpP (a := (((turn22 : Nat) : Int) : Int)) (b := (4 : Int)) (p := turn22 ≤ 4) rfl rfl rfl rfl icmp_leN <| Plan.nil (k27 _ _ ?_); clear k27
  by_cases hc28 : turn22 ≤ 4
  ·
   replace hR := ifT hR hc28
   refine W.condT (congrArg Value.bool (decide_eq_true hc28)) ?_
   refine W.skip ?_
   refine k26 _ _ ?_; clear k26
   refine W.seq_k fun _ k29 => ?_
   refine W.block ?_
   refine W.regionD FAes.mixed [(0, true), (1, true), (2, true), (3, true), (4, true), (5, true), (6, true), (7, true), (8, true), (9, true), (10, true)] (by kernel_rfl) ?_
   have h30 := h25.drew
   refine Plan.move_int rfl rfl <| Plan.move_int rfl rfl <| Plan.move_int rfl rfl <| Plan.shlU .u8 (X := inverse2) (c := turn22) rfl rfl rfl <| Plan.move_int rfl rfl <| Plan.move_int rfl rfl <| Plan.subN (a := 8) (b := turn22) rfl rfl rfl (by omega) <| Plan.shrU .u8 (X := inverse2) (c := (8 - turn22)) rfl rfl rfl ?_
   refine Plan.orU .u8 (X := (inverse2 <<< turn22)) (Y := (inverse2 >>> (8 - turn22))) rfl rfl rfl <| Plan.xorU .u8 (X := x_21) (Y := ((inverse2 <<< turn22) ||| (inverse2 >>> (8 - turn22)))) rfl rfl rfl <| Plan.assign_int rfl rfl <| Plan.nil ?_
   refine blockR_norm ?_
   refine k29 _ _ ?_; clear k29
   refine W.regionT [(0, true), (1, true), (2, true)] (by kernel_rfl) ?_
   refine Plan.move_int rfl rfl <| Plan.addN (a := turn22) (b := 1) rfl rfl rfl (by omega) <| Plan.assign_int rfl rfl <| Plan.nil ?_
   exact iterR_norm ⟨_, hR, (zer (zer (zer (zer (zer zen))))), h30⟩
  ·
   replace hR := ifF hR hc28
   refine W.condF (congrArg Value.bool (decide_eq_false hc28)) ?_
   refine W.exit (thenR_exit (iterR_exit (blockR_here ?_)))
   exact ⟨x_21, (hx24 _ hR).symm, (zer (zer (zer zen))), h25⟩
 ·
  rintro ev31 wl31 ⟨y_x_23, hy31, he31, h31⟩
  obtain ⟨ev31, rfl⟩ := he31.open
  subst hy31
  replace hR := hR024
  refine k8 _ _ ?_; clear k8
  refine W.seq_k fun _ k32 => W.regionT [(0, true), (1, true), (2, true), (3, true), (4, true), (5, false)] (by kernel_rfl) ?_
  refine Plan.move_int rfl rfl <| Plan.move_int rfl rfl <| Plan.xorU .u8 (X := x_23) (Y := 99#8) rfl rfl rfl <| Plan.fieldAddr0 FAes.fld61_0 rfl rfl <| Plan.idxArr1 (j := a1.toNat) FAes.arr59 rfl rfl rfl a1.isLt ?_
  refine Plan.storeU (j := a1.toNat) (X := (x_23 ^^^ (99#8))) h31 0 rfl rfl rfl rfl (by first | omega | exact a1.isLt) FAes.sz5 rfl fun w33 h33 => ?_
  simp only [zca, zna, zsz, zss] at h33
  refine Plan.nil (k32 _ _ ?_); clear k32
  refine W.regionT [(0, true), (1, true), (2, true), (3, true), (4, true), (5, false)] (by kernel_rfl) ?_
  refine Plan.move_int rfl rfl <| Plan.xorU .u8 (X := x_23) (Y := 99#8) rfl rfl rfl <| Plan.move_int rfl rfl <| Plan.fieldAddr 256 FAes.fld61_1 rfl rfl <| Plan.idxArr1 (j := (x_23 ^^^ (99#8)).toNat) FAes.arr59 rfl rfl rfl (x_23 ^^^ (99#8)).isLt ?_
  refine Plan.storeU (j := (x_23 ^^^ (99#8)).toNat) (X := a1) h33 1 rfl rfl rfl rfl (by first | omega | exact (x_23 ^^^ (99#8)).isLt) FAes.sz5 rfl fun w34 h34 => ?_
  simp only [zca, zna, zsz, zss] at h34
  refine Plan.nil ?_
  refine finR_norm ?_
  subst r
  refine RetOk.mk .nil ?_
  exact ⟨rfl, h34⟩
theorem aes_Mul_ok {B : Nat} {w0 w : World} {L : List Rg} {a1 : BitVec 8} {b2 : BitVec 8} {r : (BitVec 8)} (hR : aes_Mul a1 b2 r) (HST : St B w0 (L) w) :
  Calls Try.prog 9 #[VU .u8 a1, VU .u8 b2] w fun e w' => e = .returned (VU .u8 r) ∧ St B w0 (L) w' := by
 refine W.enter 26 Try.func9 rfl rfl rfl ?_
 unfold aes_Mul at hR
 refine W.seq_k fun _ k3 => W.regionT [(0, true)] (by kernel_rfl) ?_
 refine Plan.assign_int rfl rfl <| Plan.nil (k3 _ _ ?_); clear k3
 refine W.seq_k fun _ k4 => W.regionT [(0, true)] (by kernel_rfl) ?_
 refine Plan.assign_int rfl rfl <| Plan.nil (k4 _ _ ?_); clear k4
 refine W.seq_k fun _ k5 => ?_
 obtain ⟨out44, hI45, hR045⟩ := hR
 refine W.cutN (fun e w => ∃ y_out44 : BitVec 8, out44 = y_out44 ∧ EnvHas e [(5, VU .u8 y_out44)] ∧ St B w0 (L) w) ?_ ?_
 ·
  refine W.block ?_
  refine W.iter hI45 (fun (s45 : ((BitVec 8) × (BitVec 8) × (BitVec 8))) e w => EnvHas e [(0, VU .u8 s45.1), (1, VU .u8 s45.2.1), (5, VU .u8 s45.2.2)] ∧ St B w0 (L) w) ⟨(zer (zer (zer zen))), HST⟩ ?_
  rintro ⟨a41, b42, out43⟩ o45 hR hx45 ev46 wl46 ⟨he46, h46⟩
  obtain ⟨ev46, rfl⟩ := he46.open
  unfold aes_Mul_l0 at hR
  refine W.seq_k fun _ k47 => W.seq_k fun _ k48 => ?_
  refine W.regionT [(0, true), (1, true)] (by kernel_rfl) ?_
  refine Plan.move_int rfl rfl <| Plan.cmpP (a := (b42.toNat : Int)) (b := ((0#8).toNat : Int)) (p := b42 ≠ 0#8) rfl rfl rfl rfl icmp_neU <| Plan.nil (k48 _ _ ?_); clear k48
  by_cases hc49 : b42 ≠ 0#8
  ·
   replace hR := ifT hR hc49
   refine W.condT (congrArg Value.bool (decide_eq_true hc49)) ?_
   refine W.skip ?_
   refine k47 _ _ ?_; clear k47
   refine W.seq_k fun _ k50 => ?_
   refine W.block ?_
   refine W.seq_k fun _ k51 => ?_
   obtain ⟨out54, hX55, hR055⟩ := hR
   refine W.cutN (fun e w => ∃ y_out54 : BitVec 8, (out54 = y_out54) ∧ EnvHas e [(0, VU .u8 a41), (1, VU .u8 b42), (5, VU .u8 y_out54)] ∧ St B w0 (L) w) ?_ ?_
   ·
    replace hR := hX55
    refine W.seq_k fun _ k56 => W.regionT [(0, true), (1, true), (2, true)] (by kernel_rfl) ?_
    refine Plan.move_int rfl rfl <| Plan.andU .u8 (X := b42) (Y := 1#8) rfl rfl rfl <| Plan.cmpP (a := ((b42 &&& (1#8)).toNat : Int)) (b := ((1#8).toNat : Int)) (p := (b42 &&& (1#8)) = 1#8) rfl rfl rfl rfl icmp_eqU <| Plan.nil (k56 _ _ ?_); clear k56
    by_cases hc57 : (b42 &&& (1#8)) = 1#8
    ·
     replace hR := ifT hR hc57
     refine W.condT (congrArg Value.bool (decide_eq_true hc57)) ?_
     refine W.regionT [(0, true), (1, true), (2, true), (3, true)] (by kernel_rfl) ?_
     refine Plan.move_int rfl rfl <| Plan.move_int rfl rfl <| Plan.xorU .u8 (X := out43) (Y := a41) rfl rfl rfl <| Plan.assign_int rfl rfl <| Plan.nil ?_
     exact ⟨(out43 ^^^ a41), hR, (zer (zer (zer zen))), h46⟩
    ·
     replace hR := ifF hR hc57
     refine W.condF (congrArg Value.bool (decide_eq_false hc57)) ?_
     refine W.skip ?_
     exact ⟨out43, hR, (zer (zer (zer zen))), h46⟩
   ·
    rintro ev58 wl58 ⟨y_out54, hy58_0, he58, h58⟩
    subst hy58_0
    obtain ⟨ev58, rfl⟩ := he58.open
    replace hR := hR055
    refine k51 _ _ ?_; clear k51
    refine W.seq_k fun _ k59 => W.regionT [(0, true), (1, true), (2, true), (3, true)] (by kernel_rfl) ?_
    refine Plan.move_int rfl rfl <| Plan.andU .u8 (X := a41) (Y := 128#8) rfl rfl rfl <| Plan.cmpP (a := ((a41 &&& (128#8)).toNat : Int)) (b := ((0#8).toNat : Int)) (p := (a41 &&& (128#8)) ≠ 0#8) rfl rfl rfl rfl icmp_neU <| Plan.assign_bool rfl rfl <| Plan.nil (k59 _ _ ?_); clear k59
    refine W.seq_k fun _ k60 => W.regionT [(0, true), (1, true), (2, true)] (by kernel_rfl) ?_
    refine Plan.move_int rfl rfl <| Plan.shlU .u8 (X := a41) (c := 1) rfl rfl rfl <| Plan.assign_int rfl rfl <| Plan.nil (k60 _ _ ?_); clear k60
    refine W.seq_k fun _ k61 => W.regionT [(0, true)] (by kernel_rfl) ?_
    refine Plan.move_bool rfl rfl <| Plan.nil (k61 _ _ ?_); clear k61
    by_cases hc62 : (a41 &&& (128#8)) ≠ 0#8
    ·
     replace hR := ifT hR hc62
     refine W.condT (congrArg Value.bool (decide_eq_true hc62)) ?_
     refine W.regionT [(0, true), (1, true), (2, true)] (by kernel_rfl) ?_
     refine Plan.move_int rfl rfl <| Plan.xorU .u8 (X := (a41 <<< 1)) (Y := 27#8) rfl rfl rfl <| Plan.assign_int rfl rfl <| Plan.nil ?_
     refine blockR_norm ?_
     refine k50 _ _ ?_; clear k50
     refine W.regionT [(0, true), (1, true), (2, true)] (by kernel_rfl) ?_
     refine Plan.move_int rfl rfl <| Plan.shrU .u8 (X := b42) (c := 1) rfl rfl rfl <| Plan.assign_int rfl rfl <| Plan.nil ?_
     exact iterR_norm ⟨_, hR, (zer (zer (zer zen))), h58⟩
    ·
     replace hR := ifF hR hc62
     refine W.condF (congrArg Value.bool (decide_eq_false hc62)) ?_
     refine W.skip ?_
     refine blockR_norm ?_
     refine k50 _ _ ?_; clear k50
     refine W.regionT [(0, true), (1, true), (2, true)] (by kernel_rfl) ?_
     refine Plan.move_int rfl rfl <| Plan.shrU .u8 (X := b42) (c := 1) rfl rfl rfl <| Plan.assign_int rfl rfl <| Plan.nil ?_
     exact iterR_norm ⟨_, hR, (zer (zer (zer zen))), h58⟩
  ·
   replace hR := ifF hR hc49
   refine W.condF (congrArg Value.bool (decide_eq_false hc49)) ?_
   refine W.exit (thenR_exit (iterR_exit (blockR_here ?_)))
   exact ⟨out43, (hx45 _ hR).symm, (zer zen), h46⟩
 ·
  rintro ev63 wl63 ⟨y_out44, hy63, he63, h63⟩
  obtain ⟨ev63, rfl⟩ := he63.open
  subst hy63
  replace hR := hR045
  refine k5 _ _ ?_; clear k5
  refine W.seq_k fun _ k64 => W.regionT [(0, true), (1, true)] (by kernel_rfl) ?_
  refine Plan.move_int rfl rfl <| Plan.assign_int rfl rfl <| Plan.nil (k64 _ _ ?_); clear k64
  refine W.ret (finR_ret ?_)
  subst r
  refine RetOk.mk (.tmp_int rfl .nil) ?_
  exact ⟨rfl, h63⟩
theorem aes_fill_ok {B : Nat} {w0 w : World} {L : List Rg}  {r : ((Nat → BitVec 8) × (Nat → BitVec 8) × (Nat → BitVec 8))} (hR : aes_fill r) (HST : St B w0 (L) w) :
  Calls Try.prog 23 #[] w fun e w' => e = .returned (AG [(256, fun q => VU .u8 (r.1 q)), (256, fun q => VU .u8 (r.2.1 q)), (256, fun q => VU .u8 (r.2.2 q))]) ∧ St B w0 (L) w' := by
 refine W.enter 32 Try.func23 rfl rfl rfl ?_
 unfold aes_fill at hR
 refine W.seq_k fun _ k1 => W.regionT [(0, false)] (by kernel_rfl) ?_
 refine Plan.alloc HST rfl FAes.z61 PIn.nil fun b2 w2 hb2 h2 => ?_
 simp only [rngs, Nat.zero_add, Nat.reduceAdd, zca, zna] at h2
 refine Plan.nil (k1 _ _ ?_); clear k1
 refine W.seq_k fun _ k3 => W.regionT [(0, true), (1, false), (2, false)] (by kernel_rfl) ?_
 refine Plan.buildZ FAes.row61 FAes.z61 rfl ?_
 refine Plan.alloc h2 rfl FAes.z61 PIn.nil fun b4 w4 hb4 h4 => ?_
 simp only [rngs, Nat.zero_add, Nat.reduceAdd, zca, zna] at h4
 refine Plan.storeP (ps := [(256, fun q => VU .u8 ((fun _ => 0#8) q)), (256, fun q => VU .u8 ((fun _ => 0#8) q)), (256, fun q => VU .u8 ((fun _ => 0#8) q))]) h4 rfl rfl rfl (.cons 0 rfl (.cons 1 rfl (.cons 2 rfl .nil))) ⟨fun _ _ => rfl, fun _ _ => rfl, fun _ _ => rfl, trivial⟩ FAes.sz61 (EffO.keep PIn.nil) fun w5 h5 => ?_
 simp only [zca, zna, zsz, zss] at h5
 refine Plan.nil (k3 _ _ ?_); clear k3
 refine W.seq_k fun _ k6 => W.regionT [(0, true), (1, true)] (by kernel_rfl) ?_
 refine Plan.assign_int rfl rfl <| Plan.assign_int rfl rfl <| Plan.nil (k6 _ _ ?_); clear k6
 refine W.seq_k fun _ k7 => W.regionT [(0, true), (1, true)] (by kernel_rfl) ?_
 refine Plan.makeF rfl rfl <| Plan.assign rfl rfl <| Plan.nil (k7 _ _ ?_); clear k7
 refine W.seq_k fun _ k8 => W.regionT [(0, true), (1, false)] (by kernel_rfl) ?_
 refine Plan.move rfl rfl ?_
 obtain ⟨x_10, x_11, hr9, hR⟩ := hR
 refine Plan.callF (f := 39) (vs := [VU .u8 (0#8), VU .u8 (0#8)]) (cs := [.pointer (some ⟨b4, 0, none⟩)]) rfl rfl FAes.call39 rfl (aes_fill_1_ok  hr9 h5) ?_
 rintro _ w12 ⟨rfl, h12⟩
 refine ⟨_, rfl, .inl ⟨PIn.keep PIn.nil h12, ?_⟩⟩
 refine Plan.nil (k8 _ _ ?_); clear k8
 refine W.seq_k fun _ k13 => W.seq_k fun _ k14 => ?_
 refine W.regionT [(0, true)] (by kernel_rfl) ?_
 refine Plan.move_int rfl rfl <| Plan.nil (k14 _ _ ?_); clear k14
 obtain ⟨m54, m55, hI56, hR056⟩ := hR
 refine W.cutN (fun e w => ∃ y_m54 : Nat → BitVec 8, ∃ y_m55 : Nat → BitVec 8, (m54, m55) = (y_m54, y_m55) ∧ EnvHas e [(0, .pointer (some ⟨b2, 0, none⟩)), (1, .pointer (some ⟨b4, 0, none⟩))] ∧ St B w0 (⟨some b4, 0, 256, fun q => VU .u8 (y_m54 q), true⟩ :: ⟨some b4, 256, 256, fun q => VU .u8 (y_m55 q), true⟩ :: ⟨some b4, 512, 256, fun q => VU .u8 ((fun _ => 0#8) q), true⟩ :: ⟨some b2, 0, 256, fun q => VU .u8 ((fun _ => 0#8) q), true⟩ :: ⟨some b2, 256, 256, fun q => VU .u8 ((fun _ => 0#8) q), true⟩ :: ⟨some b2, 512, 256, fun q => VU .u8 ((fun _ => 0#8) q), true⟩ :: L) w) ?_ ?_
 ·
  refine W.block ?_
  refine W.iter hI56 (fun (s56 : ((BitVec 8) × (BitVec 8) × Nat × (Nat → BitVec 8) × (Nat → BitVec 8))) e w => EnvHas e [(0, .pointer (some ⟨b2, 0, none⟩)), (1, .pointer (some ⟨b4, 0, none⟩)), (2, VU .u8 s56.1), (3, VU .u8 s56.2.1), (4, .func (.func 39) #[] #[.pointer (some ⟨b4, 0, none⟩)]), (10, VN s56.2.2.1)] ∧ St B w0 (⟨some b4, 0, 256, fun q => VU .u8 (s56.2.2.2.1 q), true⟩ :: ⟨some b4, 256, 256, fun q => VU .u8 (s56.2.2.2.2 q), true⟩ :: ⟨some b4, 512, 256, fun q => VU .u8 ((fun _ => 0#8) q), true⟩ :: ⟨some b2, 0, 256, fun q => VU .u8 ((fun _ => 0#8) q), true⟩ :: ⟨some b2, 256, 256, fun q => VU .u8 ((fun _ => 0#8) q), true⟩ :: ⟨some b2, 512, 256, fun q => VU .u8 ((fun _ => 0#8) q), true⟩ :: L) w) ⟨(zer (zer (zer (zer (zer (zer zen)))))), h12⟩ ?_
  rintro ⟨p49, q_50, t51, m52, m53⟩ o56 hR hx56 ev57 wl57 ⟨he57, h57⟩
  obtain ⟨ev57, rfl⟩ := he57.open
  unfold aes_fill_l0 at hR
  refine W.seq_k fun _ k58 => W.regionT [(0, true)] (by kernel_rfl) ?_
  refine Plan.cmpP (a := (((t51 : Nat) : Int) : Int)) (b := (255 : Int)) (p := t51 < 255) rfl rfl rfl rfl icmp_ltN <| Plan.nil (k58 _ _ ?_); clear k58
  refine W.seq_k fun _ k59 => ?_
  by_cases hc60 : t51 < 255
  ·
   replace hR := ifT hR hc60
   refine W.condT (congrArg Value.bool (decide_eq_true hc60)) ?_
   refine W.skip ?_
   refine k59 _ _ ?_; clear k59
   refine W.seq_k fun _ k61 => ?_
   refine W.block ?_
   refine W.seq_k fun _ k62 => W.regionT [(0, true), (1, true), (2, true), (3, false)] (by kernel_rfl) ?_
   refine Plan.move rfl rfl <| Plan.move_int rfl rfl <| Plan.move_int rfl rfl ?_
   obtain ⟨x_64, x_65, hr63, hR⟩ := hR
   refine Plan.callF (f := 39) (vs := [VU .u8 p49, VU .u8 q_50]) (cs := [.pointer (some ⟨b4, 0, none⟩)]) rfl rfl FAes.call39 rfl (aes_fill_1_ok  hr63 h57) ?_
   rintro _ w66 ⟨rfl, h66⟩
   refine ⟨_, rfl, .inl ⟨PIn.keep PIn.nil h66, ?_⟩⟩
   refine Plan.nil (k62 _ _ ?_); clear k62
   refine W.regionT [(0, true), (1, false), (2, true), (3, false), (4, true), (5, true)] (by kernel_rfl) ?_
   refine Plan.move_int rfl rfl ?_
   obtain ⟨x_68, hr67, hR⟩ := hR
   refine Plan.call (vs := [VU .u8 p49, VU .u8 (3#8)]) rfl FAes.call9 rfl (aes_Mul_ok  hr67 h66) ?_
   rintro _ w69 ⟨rfl, h69⟩
   refine ⟨_, rfl, .inl ⟨PIn.keep PIn.nil h69, ?_⟩⟩
   refine Plan.move_int rfl rfl ?_
   obtain ⟨x_71, hr70, hR⟩ := hR
   refine Plan.call (vs := [VU .u8 q_50, VU .u8 (246#8)]) rfl FAes.call9 rfl (aes_Mul_ok  hr70 h69) ?_
   rintro _ w72 ⟨rfl, h72⟩
   refine ⟨_, rfl, .inl ⟨PIn.keep PIn.nil h72, ?_⟩⟩
   refine Plan.assign_int rfl rfl <| Plan.assign_int rfl rfl <| Plan.nil ?_
   refine blockR_norm ?_
   refine k61 _ _ ?_; clear k61
   refine W.regionT [(0, true), (1, true)] (by kernel_rfl) ?_
   refine Plan.addN (a := t51) (b := 1) rfl rfl rfl (by omega) <| Plan.move_int rfl rfl <| Plan.nil ?_
   exact iterR_norm ⟨_, hR, (zer (zer (zer (zer (zer (zer zen)))))), h72⟩
  ·
   replace hR := ifF hR hc60
   refine W.condF (congrArg Value.bool (decide_eq_false hc60)) ?_
   refine W.exit (thenR_exit (iterR_exit (blockR_here ?_)))
   exact ⟨m52, m53, (hx56 _ hR).symm, (zer (zer zen)), h57⟩
 ·
  rintro ev73 wl73 ⟨y_m54, y_m55, hy73, he73, h73⟩
  obtain ⟨ev73, rfl⟩ := he73.open
  cases hy73
  replace hR := hR056
  refine k13 _ _ ?_; clear k13
  refine W.seq_k fun _ k74 => W.seq_k fun _ k75 => ?_
  refine W.regionT [(0, true)] (by kernel_rfl) ?_
  refine Plan.move_int rfl rfl <| Plan.nil (k75 _ _ ?_); clear k75
  obtain ⟨m97, hI98, hR098⟩ := hR
  refine W.cutN (fun e w => ∃ y_m97 : Nat → BitVec 8, m97 = y_m97 ∧ EnvHas e [(0, .pointer (some ⟨b2, 0, none⟩)), (1, .pointer (some ⟨b4, 0, none⟩))] ∧ St B w0 (⟨some b4, 0, 256, fun q => VU .u8 (m54 q), true⟩ :: ⟨some b4, 256, 256, fun q => VU .u8 (m55 q), true⟩ :: ⟨some b4, 512, 256, fun q => VU .u8 (y_m97 q), true⟩ :: ⟨some b2, 0, 256, fun q => VU .u8 ((fun _ => 0#8) q), true⟩ :: ⟨some b2, 256, 256, fun q => VU .u8 ((fun _ => 0#8) q), true⟩ :: ⟨some b2, 512, 256, fun q => VU .u8 ((fun _ => 0#8) q), true⟩ :: L) w) ?_ ?_
  ·
   refine W.block ?_
   refine W.iter hI98 (fun (s98 : (Nat × (Nat → BitVec 8))) e w => EnvHas e [(0, .pointer (some ⟨b2, 0, none⟩)), (1, .pointer (some ⟨b4, 0, none⟩)), (21, VN s98.1)] ∧ St B w0 (⟨some b4, 0, 256, fun q => VU .u8 (m54 q), true⟩ :: ⟨some b4, 256, 256, fun q => VU .u8 (m55 q), true⟩ :: ⟨some b4, 512, 256, fun q => VU .u8 (s98.2 q), true⟩ :: ⟨some b2, 0, 256, fun q => VU .u8 ((fun _ => 0#8) q), true⟩ :: ⟨some b2, 256, 256, fun q => VU .u8 ((fun _ => 0#8) q), true⟩ :: ⟨some b2, 512, 256, fun q => VU .u8 ((fun _ => 0#8) q), true⟩ :: L) w) ⟨(zer (zer (zer zen))), h73⟩ ?_
   rintro ⟨t95, m96⟩ o98 hR hx98 ev99 wl99 ⟨he99, h99⟩
   obtain ⟨ev99, rfl⟩ := he99.open
   unfold aes_fill_l1 at hR
   refine W.seq_k fun _ k100 => W.regionT [(0, true)] (by kernel_rfl) ?_
   refine Plan.cmpP (a := (((t95 : Nat) : Int) : Int)) (b := (256 : Int)) (p := t95 < 256) rfl rfl rfl rfl icmp_ltN <| Plan.nil (k100 _ _ ?_); clear k100
   refine W.seq_k fun _ k101 => ?_
   by_cases hc102 : t95 < 256
   ·
    replace hR := ifT hR hc102
    refine W.condT (congrArg Value.bool (decide_eq_true hc102)) ?_
    refine W.skip ?_
    refine k101 _ _ ?_; clear k101
    refine W.seq_k fun _ k103 => ?_
    refine W.block ?_
    refine W.seq_k fun _ k104 => W.regionT [(0, true), (1, true)] (by kernel_rfl) ?_
    refine Plan.move_int rfl rfl <| Plan.assign_int rfl rfl <| Plan.nil (k104 _ _ ?_); clear k104
    refine W.regionT [(0, true), (1, true), (2, true), (3, false), (4, true), (5, true), (6, false)] (by kernel_rfl) ?_
    refine Plan.move_int rfl rfl <| Plan.move_int rfl rfl <| Plan.convNU .u8 (a := t95) FAes.u5 FAes.some3 rfl rfl ?_
    obtain ⟨x_106, hr105, hR⟩ := hR
    refine Plan.call (vs := [VU .u8 (BitVec.ofNat 8 t95), VU .u8 (2#8)]) rfl FAes.call9 rfl (aes_Mul_ok  hr105 h99) ?_
    rintro _ w107 ⟨rfl, h107⟩
    refine ⟨_, rfl, .inl ⟨PIn.keep PIn.nil h107, ?_⟩⟩
    refine Plan.fieldAddr 512 FAes.fld61_2 rfl rfl <| Plan.idxArr1 (j := t95) FAes.arr59 rfl rfl rfl (by omega) ?_
    refine Plan.storeU (j := t95) (X := x_106) h107 2 rfl rfl rfl rfl (by omega) FAes.sz5 rfl fun w108 h108 => ?_
    simp only [zca, zna, zsz, zss] at h108
    refine Plan.nil ?_
    refine blockR_norm ?_
    refine k103 _ _ ?_; clear k103
    refine W.regionT [(0, true), (1, true)] (by kernel_rfl) ?_
    refine Plan.addN (a := t95) (b := 1) rfl rfl rfl (by omega) <| Plan.move_int rfl rfl <| Plan.nil ?_
    exact iterR_norm ⟨_, hR, (zer (zer (zer zen))), h108⟩
   ·
    replace hR := ifF hR hc102
    refine W.condF (congrArg Value.bool (decide_eq_false hc102)) ?_
    refine W.exit (thenR_exit (iterR_exit (blockR_here ?_)))
    exact ⟨m96, (hx98 _ hR).symm, (zer (zer zen)), h99⟩
  ·
   rintro ev109 wl109 ⟨y_m97, hy109, he109, h109⟩
   obtain ⟨ev109, rfl⟩ := he109.open
   subst hy109
   replace hR := hR098
   refine k74 _ _ ?_; clear k74
   refine W.seq_k fun _ k110 => W.regionT [(0, true), (1, false)] (by kernel_rfl) ?_
   refine Plan.loadA h109 rfl rfl (.cons 0 rfl (.cons 1 rfl (.cons 2 rfl .nil))) FAes.agg61 ?_
   refine Plan.storeP (ps := [(256, fun q => VU .u8 (m54 q)), (256, fun q => VU .u8 (m55 q)), (256, fun q => VU .u8 (m97 q))]) h109 rfl rfl rfl (.cons 3 rfl (.cons 4 rfl (.cons 5 rfl .nil))) ⟨fun _ _ => rfl, fun _ _ => rfl, fun _ _ => rfl, trivial⟩ FAes.sz61 (EffO.wait rfl) fun w111 h111 => ?_
   simp only [zca, zna, zsz, zss] at h111
   refine Plan.nil (k110 _ _ ?_); clear k110
   refine W.ret (finR_ret ?_)
   have h112 := St.pickT (C := [_, _, _, _, _, _]) h111 [] (by decide)
   simp only [pick, zfc, zfn, zgz, zgs, zca, zna] at h112
   subst r
   refine RetOk.mk (.agg h111 rfl (.cons 3 rfl (.cons 4 rfl (.cons 5 rfl .nil))) FAes.agg61 .nil) ?_
   exact ⟨rfl, h112⟩
theorem aes_Cipher_expand_ok {B : Nat} {w0 w : World} {L : List Rg} {bc1 : Nat} {ckeys2 : Nat → BitVec 8} {ct3 : Nat → BitVec 8} {ct4 : Nat → BitVec 8} {ct5 : Nat → BitVec 8} {key6 : List Byte} {akey6 : Option Addr} {nkey6 ckey6 ikey6 : Nat} (hkey6 : Bx L ikey6 akey6 nkey6 ckey6 key6) {r : (Nat → BitVec 8)} (hR : aes_Cipher_expand ckeys2 ct3 ct4 ct5 key6 r) (HST : St B w0 (⟨some bc1, 0, 240, fun q => VU .u8 (ckeys2 q), true⟩ :: ⟨some bc1, 240, 256, fun q => VU .u8 (ct3 q), true⟩ :: ⟨some bc1, 496, 256, fun q => VU .u8 (ct4 q), true⟩ :: ⟨some bc1, 752, 256, fun q => VU .u8 (ct5 q), true⟩ :: L) w) :
  Calls Try.prog 26 #[.pointer (some ⟨bc1, 0, none⟩), .slice akey6 nkey6 ckey6] w fun e w' => e = .returned (.tuple #[]) ∧ St B w0 (⟨some bc1, 0, 240, fun q => VU .u8 (r q), true⟩ :: ⟨some bc1, 240, 256, fun q => VU .u8 (ct3 q), true⟩ :: ⟨some bc1, 496, 256, fun q => VU .u8 (ct4 q), true⟩ :: ⟨some bc1, 752, 256, fun q => VU .u8 (ct5 q), true⟩ :: L) w' := by
 refine W.enter 141 Try.func26 rfl rfl rfl ?_
 unfold aes_Cipher_expand at hR
 have ekey6 := hkey6.hl; subst ekey6
 refine W.seq_k fun _ k7 => W.regionT [(0, false)] (by kernel_rfl) ?_
 refine Plan.alloc HST rfl FAes.z77 PIn.nil fun b8 w8 hb8 h8 => ?_
 simp only [rngs, Nat.zero_add, Nat.reduceAdd, zca, zna] at h8
 refine Plan.nil (k7 _ _ ?_); clear k7
 refine W.seq_k fun _ k9 => W.regionT [(0, true)] (by kernel_rfl) ?_
 refine Plan.assign_int rfl rfl <| Plan.nil (k9 _ _ ?_); clear k9
 refine W.seq_k fun _ k10 => W.seq_k fun _ k11 => ?_
 refine W.regionT [(0, true)] (by kernel_rfl) ?_
 refine Plan.move_int rfl rfl <| Plan.nil (k11 _ _ ?_); clear k11
 obtain ⟨m184, hI185, hR0185⟩ := hR
 refine W.cutN (fun e w => ∃ y_m184 : Nat → BitVec 8, m184 = y_m184 ∧ EnvHas e [(0, .pointer (some ⟨bc1, 0, none⟩)), (4, .pointer (some ⟨b8, 0, none⟩))] ∧ St B w0 (⟨some b8, 0, 240, fun q => VU .u8 (y_m184 q), true⟩ :: ⟨some bc1, 0, 240, fun q => VU .u8 (ckeys2 q), true⟩ :: ⟨some bc1, 240, 256, fun q => VU .u8 (ct3 q), true⟩ :: ⟨some bc1, 496, 256, fun q => VU .u8 (ct4 q), true⟩ :: ⟨some bc1, 752, 256, fun q => VU .u8 (ct5 q), true⟩ :: L) w) ?_ ?_
 ·
  refine W.block ?_
  refine W.iter hI185 (fun (s185 : ((BitVec 8) × Nat × (Nat → BitVec 8))) e w => EnvHas e [(0, .pointer (some ⟨bc1, 0, none⟩)), (1, .slice akey6 key6.length ckey6), (4, .pointer (some ⟨b8, 0, none⟩)), (5, VU .u8 s185.1), (11, VN s185.2.1)] ∧ St B w0 (⟨some b8, 0, 240, fun q => VU .u8 (s185.2.2 q), true⟩ :: ⟨some bc1, 0, 240, fun q => VU .u8 (ckeys2 q), true⟩ :: ⟨some bc1, 240, 256, fun q => VU .u8 (ct3 q), true⟩ :: ⟨some bc1, 496, 256, fun q => VU .u8 (ct4 q), true⟩ :: ⟨some bc1, 752, 256, fun q => VU .u8 (ct5 q), true⟩ :: L) w) ⟨(zer (zer (zer (zer (zer zen))))), h8⟩ ?_
  rintro ⟨power181, t182, m183⟩ o185 hR hx185 ev186 wl186 ⟨he186, h186⟩
  obtain ⟨ev186, rfl⟩ := he186.open
  unfold aes_Cipher_expand_l0 at hR
  refine W.seq_k fun _ k187 => W.regionT [(0, true)] (by kernel_rfl) ?_
  refine Plan.cmpP (a := (((t182 : Nat) : Int) : Int)) (b := (60 : Int)) (p := t182 < 60) rfl rfl rfl rfl icmp_ltN <| Plan.nil (k187 _ _ ?_); clear k187
  refine W.seq_k fun _ k188 => ?_
  by_cases hc189 : t182 < 60
  ·
   replace hR := ifT hR hc189
   refine W.condT (congrArg Value.bool (decide_eq_true hc189)) ?_
   refine W.skip ?_
   refine k188 _ _ ?_; clear k188
   refine W.seq_k fun _ k190 => ?_
   refine W.block ?_
   refine W.seq_k fun _ k191 => W.regionT [(0, true), (1, true)] (by kernel_rfl) ?_
   refine Plan.move_int rfl rfl <| Plan.assign_int rfl rfl <| Plan.nil (k191 _ _ ?_); clear k191
   refine W.seq_k fun _ k192 => W.seq_k fun _ k193 => ?_
   refine W.regionT [(0, true), (1, true)] (by kernel_rfl) ?_
   refine Plan.move_int rfl rfl <| Plan.cmpP (a := (((t182 : Nat) : Int) : Int)) (b := (8 : Int)) (p := t182 < 8) rfl rfl rfl rfl icmp_ltN <| Plan.nil (k193 _ _ ?_); clear k193
   by_cases hc194 : t182 < 8
   ·
    replace hR := ifT hR hc194
    refine W.condT (congrArg Value.bool (decide_eq_true hc194)) ?_
    refine W.seq_k fun _ k195 => ?_
    refine W.regionD FAes.mixed [(0, true), (1, true), (2, true), (3, true), (4, true), (5, true), (6, true), (7, false)] (by kernel_rfl) ?_
    have h196 := h186.drew
    refine Plan.move_int rfl rfl <| Plan.idxArrO (j := t182) (o' := 0 + (t182 * 4)) FAes.arr77 rfl rfl rfl (by omega) (by omega) <| Plan.slArrO (lo := 0) (hi := 4) (m := 4) (c := 4) (o' := 0 + (t182 * 4)) FAes.arr76 rfl rfl rfl rfl (by omega) (by omega) (by omega) (by omega) <| Plan.move_slice rfl rfl <| Plan.move_int rfl rfl <| Plan.mulN (a := 4) (b := t182) rfl rfl rfl (by omega) ?_
    obtain ⟨hc197, hR⟩ := hR
    refine Plan.slV (lo := (4 * t182)) (hi := key6.length) hkey6 FAes.sl28 rfl rfl ⟨_, rfl⟩ rfl hc197 fun a198 c198 hv198 => ?_
    refine Plan.copyB (jd := t182 * 4) (X := (seg key6 (4 * t182) key6.length)) h196 0 (min ((seg key6 (4 * t182) key6.length).length) 4) FAes.sl28 rfl rfl rfl rfl ((hv198.app [_, _, _, _, _]).bs' 0 rfl) (fun _ => ⟨_, rfl, rfl⟩) rfl rfl (by omega) (EffO.keep PIn.nil) fun w199 h199 => ?_
    simp only [zca, zna, zsz, zss] at h199
    refine Plan.nil (k195 _ _ ?_); clear k195
    refine W.exit (thenR_exit (blockR_here ?_))
    refine k190 _ _ ?_; clear k190
    refine W.regionT [(0, true), (1, true)] (by kernel_rfl) ?_
    refine Plan.addN (a := t182) (b := 1) rfl rfl rfl (by omega) <| Plan.move_int rfl rfl <| Plan.nil ?_
    exact iterR_norm ⟨_, hR, (zer (zer (zer (zer (zer zen))))), h199⟩
   ·
    replace hR := ifF hR hc194
    refine W.condF (congrArg Value.bool (decide_eq_false hc194)) ?_
    refine W.skip ?_
    refine k192 _ _ ?_; clear k192
    refine W.seq_k fun _ k200 => W.regionT [(0, true), (1, true), (2, true), (3, true), (4, false), (5, false)] (by kernel_rfl) ?_
    refine Plan.move_int rfl rfl <| Plan.subN (a := t182) (b := 1) rfl rfl rfl (by omega) <| Plan.idxArrO (j := (t182 - 1)) (o' := 0 + ((t182 - 1) * 4)) FAes.arr77 rfl rfl rfl (by omega) (by omega) <| Plan.loadSub (m' := 4) h186 0 ((t182 - 1) * 4) rfl rfl rfl rfl (by omega) FAes.agg76 ?_
    refine Plan.alloc h186 rfl FAes.z76 (PIn.cons 0 rfl PIn.nil) fun b201 w201 hb201 h201 => ?_
    simp only [rngs, Nat.zero_add, Nat.reduceAdd, zca, zna] at h201
    refine Plan.storeA (f' := fun q => VU .u8 ((fun q => m183 (((t182 - 1) * 4) + q)) q)) h201 0 rfl rfl rfl rfl (fun _ _ => rfl) FAes.sz76 rfl fun w202 h202 => ?_
    simp only [zca, zna, zsz, zss] at h202
    refine Plan.nil (k200 _ _ ?_); clear k200
    refine W.seq_k fun _ k203 => ?_
    obtain ⟨power217, m218, hX219, hR0219⟩ := hR
    refine W.cutN (fun e w => ∃ y_power217 : BitVec 8, ∃ y_m218 : Nat → BitVec 8, (power217 = y_power217 ∧ m218 = y_m218) ∧ EnvHas e [(0, .pointer (some ⟨bc1, 0, none⟩)), (1, .slice akey6 key6.length ckey6), (4, .pointer (some ⟨b8, 0, none⟩)), (5, VU .u8 y_power217), (6, VN t182), (7, .pointer (some ⟨b201, 0, none⟩)), (11, VN t182)] ∧ St B w0 (⟨some b201, 0, 4, fun q => VU .u8 (y_m218 q), true⟩ :: ⟨some b8, 0, 240, fun q => VU .u8 (m183 q), true⟩ :: ⟨some bc1, 0, 240, fun q => VU .u8 (ckeys2 q), true⟩ :: ⟨some bc1, 240, 256, fun q => VU .u8 (ct3 q), true⟩ :: ⟨some bc1, 496, 256, fun q => VU .u8 (ct4 q), true⟩ :: ⟨some bc1, 752, 256, fun q => VU .u8 (ct5 q), true⟩ :: L) w) ?_ ?_
    ·
     replace hR := hX219
     refine W.seq_k fun _ k220 => W.regionT [(0, true), (1, true)] (by kernel_rfl) ?_
     refine Plan.move_int rfl rfl <| Plan.remN (a := t182) (b := 8) rfl rfl rfl (by omega) <| Plan.nil (k220 _ _ ?_); clear k220
     refine W.block ?_
     refine W.seq_k fun _ k221 => W.regionT [(0, true), (1, true)] (by kernel_rfl) ?_
     refine Plan.cmpP (a := ((((t182 % 8) : Nat) : Int) : Int)) (b := (0 : Int)) (p := (t182 % 8) = 0) rfl rfl rfl rfl icmp_eqN <| Plan.assign_bool rfl rfl <| Plan.nil (k221 _ _ ?_); clear k221
     by_cases hc222 : (t182 % 8) = 0
     ·
      replace hR := ifT hR hc222
      refine W.condT (congrArg Value.bool (decide_eq_true hc222)) ?_
      refine W.seq_k fun _ k223 => ?_
      refine W.regionD FAes.mixed [(0, true), (1, true), (2, true), (3, true), (4, true), (5, true), (6, true), (7, true), (8, true), (9, true), (10, true), (11, true), (12, true), (13, true), (14, true), (15, true), (16, true), (17, true), (18, true), (19, true), (20, true), (21, true), (22, true), (23, true), (24, true), (25, true), (26, true), (27, true), (28, true), (29, true), (30, true), (31, true), (32, true), (33, true), (34, true), (35, false)] (by kernel_rfl) ?_
      have h224 := h202.drew
      refine Plan.move_ptr rfl rfl <| Plan.idxArr1 (j := 1) FAes.arr76 rfl rfl rfl (by omega) <| Plan.load1 (j := 1) h224 0 rfl rfl rfl (by omega) FAes.sc5 <| Plan.nilCheck rfl rfl <| Plan.fieldAddr 240 FAes.fld67_1 rfl rfl <| Plan.fieldAddr0 FAes.fld61_0 rfl rfl ?_
      refine Plan.idxArr1 (j := ((fun q => m183 (((t182 - 1) * 4) + q)) 1).toNat) FAes.arr59 rfl rfl rfl ((fun q => m183 (((t182 - 1) * 4) + q)) 1).isLt ?_
      refine Plan.load1 (j := ((fun q => m183 (((t182 - 1) * 4) + q)) 1).toNat) h224 3 rfl rfl rfl (by omega) FAes.sc5 ?_
      refine Plan.move_int rfl rfl ?_
      refine Plan.xorU .u8 (X := (ct3 (((fun q => m183 (((t182 - 1) * 4) + q)) 1).toNat))) (Y := power181) rfl rfl rfl ?_
      refine Plan.move_ptr rfl rfl <| Plan.idxArr1 (j := 2) FAes.arr76 rfl rfl rfl (by omega) <| Plan.load1 (j := 2) h224 0 rfl rfl rfl (by omega) FAes.sc5 <| Plan.nilCheck rfl rfl <| Plan.fieldAddr 240 FAes.fld67_1 rfl rfl <| Plan.fieldAddr0 FAes.fld61_0 rfl rfl ?_
      refine Plan.idxArr1 (j := ((fun q => m183 (((t182 - 1) * 4) + q)) 2).toNat) FAes.arr59 rfl rfl rfl ((fun q => m183 (((t182 - 1) * 4) + q)) 2).isLt ?_
      refine Plan.load1 (j := ((fun q => m183 (((t182 - 1) * 4) + q)) 2).toNat) h224 3 rfl rfl rfl (by omega) FAes.sc5 ?_
      refine Plan.move_ptr rfl rfl <| Plan.idxArr1 (j := 3) FAes.arr76 rfl rfl rfl (by omega) <| Plan.load1 (j := 3) h224 0 rfl rfl rfl (by omega) FAes.sc5 <| Plan.nilCheck rfl rfl <| Plan.fieldAddr 240 FAes.fld67_1 rfl rfl <| Plan.fieldAddr0 FAes.fld61_0 rfl rfl ?_
      refine Plan.idxArr1 (j := ((fun q => m183 (((t182 - 1) * 4) + q)) 3).toNat) FAes.arr59 rfl rfl rfl ((fun q => m183 (((t182 - 1) * 4) + q)) 3).isLt ?_
      refine Plan.load1 (j := ((fun q => m183 (((t182 - 1) * 4) + q)) 3).toNat) h224 3 rfl rfl rfl (by omega) FAes.sc5 ?_
      refine Plan.move_ptr rfl rfl <| Plan.idxArr1 (j := 0) FAes.arr76 rfl rfl rfl (by omega) <| Plan.load1 (j := 0) h224 0 rfl rfl rfl (by omega) FAes.sc5 <| Plan.nilCheck rfl rfl <| Plan.fieldAddr 240 FAes.fld67_1 rfl rfl <| Plan.fieldAddr0 FAes.fld61_0 rfl rfl ?_
      refine Plan.idxArr1 (j := ((fun q => m183 (((t182 - 1) * 4) + q)) 0).toNat) FAes.arr59 rfl rfl rfl ((fun q => m183 (((t182 - 1) * 4) + q)) 0).isLt ?_
      refine Plan.load1 (j := ((fun q => m183 (((t182 - 1) * 4) + q)) 0).toNat) h224 3 rfl rfl rfl (by omega) FAes.sc5 ?_
      refine Plan.buildArr (ps := [(4, fun q => VU .u8 ((lit [((ct3 (((fun q => m183 (((t182 - 1) * 4) + q)) 1).toNat)) ^^^ power181), (ct3 (((fun q => m183 (((t182 - 1) * 4) + q)) 2).toNat)), (ct3 (((fun q => m183 (((t182 - 1) * 4) + q)) 3).toNat)), (ct3 (((fun q => m183 (((t182 - 1) * 4) + q)) 0).toNat))]) q))]) FAes.arr76 FAes.z76 rfl rfl rfl ?_
      refine Plan.storeA (f' := fun q => VU .u8 ((lit [((ct3 (((fun q => m183 (((t182 - 1) * 4) + q)) 1).toNat)) ^^^ power181), (ct3 (((fun q => m183 (((t182 - 1) * 4) + q)) 2).toNat)), (ct3 (((fun q => m183 (((t182 - 1) * 4) + q)) 3).toNat)), (ct3 (((fun q => m183 (((t182 - 1) * 4) + q)) 0).toNat))]) q)) h224 0 rfl rfl rfl rfl (fun _ _ => rfl) FAes.sz76 rfl fun w225 h225 => ?_
      simp only [zca, zna, zsz, zss] at h225
      refine Plan.nil (k223 _ _ ?_); clear k223
      refine W.regionT [(0, true), (1, false), (2, true)] (by kernel_rfl) ?_
      refine Plan.move_int rfl rfl ?_
      obtain ⟨x_227, hr226, hR⟩ := hR
      refine Plan.call (vs := [VU .u8 power181, VU .u8 (2#8)]) rfl FAes.call9 rfl (aes_Mul_ok  hr226 h225) ?_
      rintro _ w228 ⟨rfl, h228⟩
      refine ⟨_, rfl, .inl ⟨PIn.keep PIn.nil h228, ?_⟩⟩
      refine Plan.assign_int rfl rfl <| Plan.nil ?_
      refine blockR_norm ?_
      exact ⟨x_227, (lit [((ct3 (((fun q => m183 (((t182 - 1) * 4) + q)) 1).toNat)) ^^^ power181), (ct3 (((fun q => m183 (((t182 - 1) * 4) + q)) 2).toNat)), (ct3 (((fun q => m183 (((t182 - 1) * 4) + q)) 3).toNat)), (ct3 (((fun q => m183 (((t182 - 1) * 4) + q)) 0).toNat))]), hR, (zer (zer (zer (zer (zer (zer (zer zen))))))), h228⟩
     ·
      replace hR := ifF hR hc222
      refine W.condF (congrArg Value.bool (decide_eq_false hc222)) ?_
      refine W.seq_k fun _ k229 => W.regionT [(0, true), (1, true)] (by kernel_rfl) ?_
      refine Plan.cmpP (a := ((((t182 % 8) : Nat) : Int) : Int)) (b := (4 : Int)) (p := (t182 % 8) = 4) rfl rfl rfl rfl icmp_eqN <| Plan.assign_bool rfl rfl <| Plan.nil (k229 _ _ ?_); clear k229
      by_cases hc230 : (t182 % 8) = 4
      ·
       replace hR := ifT hR hc230
       refine W.condT (congrArg Value.bool (decide_eq_true hc230)) ?_
       refine W.regionD FAes.mixed [(0, true), (1, true), (2, true), (3, true), (4, true), (5, true), (6, true), (7, true), (8, true), (9, true), (10, true), (11, true), (12, true), (13, true), (14, true), (15, true), (16, true), (17, true), (18, true), (19, true), (20, true), (21, true), (22, true), (23, true), (24, true), (25, true), (26, true), (27, true), (28, true), (29, true), (30, true), (31, true), (32, true), (33, false)] (by kernel_rfl) ?_
       have h231 := h202.drew
       refine Plan.move_ptr rfl rfl <| Plan.idxArr1 (j := 0) FAes.arr76 rfl rfl rfl (by omega) <| Plan.load1 (j := 0) h231 0 rfl rfl rfl (by omega) FAes.sc5 <| Plan.nilCheck rfl rfl <| Plan.fieldAddr 240 FAes.fld67_1 rfl rfl <| Plan.fieldAddr0 FAes.fld61_0 rfl rfl ?_
       refine Plan.idxArr1 (j := ((fun q => m183 (((t182 - 1) * 4) + q)) 0).toNat) FAes.arr59 rfl rfl rfl ((fun q => m183 (((t182 - 1) * 4) + q)) 0).isLt ?_
       refine Plan.load1 (j := ((fun q => m183 (((t182 - 1) * 4) + q)) 0).toNat) h231 3 rfl rfl rfl (by omega) FAes.sc5 ?_
       refine Plan.move_ptr rfl rfl <| Plan.idxArr1 (j := 1) FAes.arr76 rfl rfl rfl (by omega) <| Plan.load1 (j := 1) h231 0 rfl rfl rfl (by omega) FAes.sc5 <| Plan.nilCheck rfl rfl <| Plan.fieldAddr 240 FAes.fld67_1 rfl rfl <| Plan.fieldAddr0 FAes.fld61_0 rfl rfl ?_
       refine Plan.idxArr1 (j := ((fun q => m183 (((t182 - 1) * 4) + q)) 1).toNat) FAes.arr59 rfl rfl rfl ((fun q => m183 (((t182 - 1) * 4) + q)) 1).isLt ?_
       refine Plan.load1 (j := ((fun q => m183 (((t182 - 1) * 4) + q)) 1).toNat) h231 3 rfl rfl rfl (by omega) FAes.sc5 ?_
       refine Plan.move_ptr rfl rfl <| Plan.idxArr1 (j := 2) FAes.arr76 rfl rfl rfl (by omega) <| Plan.load1 (j := 2) h231 0 rfl rfl rfl (by omega) FAes.sc5 <| Plan.nilCheck rfl rfl <| Plan.fieldAddr 240 FAes.fld67_1 rfl rfl <| Plan.fieldAddr0 FAes.fld61_0 rfl rfl ?_
       refine Plan.idxArr1 (j := ((fun q => m183 (((t182 - 1) * 4) + q)) 2).toNat) FAes.arr59 rfl rfl rfl ((fun q => m183 (((t182 - 1) * 4) + q)) 2).isLt ?_
       refine Plan.load1 (j := ((fun q => m183 (((t182 - 1) * 4) + q)) 2).toNat) h231 3 rfl rfl rfl (by omega) FAes.sc5 ?_
       refine Plan.move_ptr rfl rfl <| Plan.idxArr1 (j := 3) FAes.arr76 rfl rfl rfl (by omega) <| Plan.load1 (j := 3) h231 0 rfl rfl rfl (by omega) FAes.sc5 <| Plan.nilCheck rfl rfl <| Plan.fieldAddr 240 FAes.fld67_1 rfl rfl <| Plan.fieldAddr0 FAes.fld61_0 rfl rfl ?_
       refine Plan.idxArr1 (j := ((fun q => m183 (((t182 - 1) * 4) + q)) 3).toNat) FAes.arr59 rfl rfl rfl ((fun q => m183 (((t182 - 1) * 4) + q)) 3).isLt ?_
       refine Plan.load1 (j := ((fun q => m183 (((t182 - 1) * 4) + q)) 3).toNat) h231 3 rfl rfl rfl (by omega) FAes.sc5 ?_
       refine Plan.buildArr (ps := [(4, fun q => VU .u8 ((lit [(ct3 (((fun q => m183 (((t182 - 1) * 4) + q)) 0).toNat)), (ct3 (((fun q => m183 (((t182 - 1) * 4) + q)) 1).toNat)), (ct3 (((fun q => m183 (((t182 - 1) * 4) + q)) 2).toNat)), (ct3 (((fun q => m183 (((t182 - 1) * 4) + q)) 3).toNat))]) q))]) FAes.arr76 FAes.z76 rfl rfl rfl ?_
       refine Plan.storeA (f' := fun q => VU .u8 ((lit [(ct3 (((fun q => m183 (((t182 - 1) * 4) + q)) 0).toNat)), (ct3 (((fun q => m183 (((t182 - 1) * 4) + q)) 1).toNat)), (ct3 (((fun q => m183 (((t182 - 1) * 4) + q)) 2).toNat)), (ct3 (((fun q => m183 (((t182 - 1) * 4) + q)) 3).toNat))]) q)) h231 0 rfl rfl rfl rfl (fun _ _ => rfl) FAes.sz76 rfl fun w232 h232 => ?_
       simp only [zca, zna, zsz, zss] at h232
       refine Plan.nil ?_
       refine blockR_norm ?_
       exact ⟨power181, (lit [(ct3 (((fun q => m183 (((t182 - 1) * 4) + q)) 0).toNat)), (ct3 (((fun q => m183 (((t182 - 1) * 4) + q)) 1).toNat)), (ct3 (((fun q => m183 (((t182 - 1) * 4) + q)) 2).toNat)), (ct3 (((fun q => m183 (((t182 - 1) * 4) + q)) 3).toNat))]), hR, (zer (zer (zer (zer (zer (zer (zer zen))))))), h232⟩
      ·
       replace hR := ifF hR hc230
       refine W.condF (congrArg Value.bool (decide_eq_false hc230)) ?_
       refine W.skip ?_
       refine blockR_norm ?_
       exact ⟨power181, (fun q => m183 (((t182 - 1) * 4) + q)), hR, (zer (zer (zer (zer (zer (zer (zer zen))))))), h202⟩
    ·
     rintro ev233 wl233 ⟨y_power217, y_m218, ⟨hy233_0, hy233_1⟩, he233, h233⟩
     subst hy233_0
     subst hy233_1
     obtain ⟨ev233, rfl⟩ := he233.open
     replace hR := hR0219
     refine k203 _ _ ?_; clear k203
     refine W.seq_k fun _ k234 => W.regionT [(0, true)] (by kernel_rfl) ?_
     refine Plan.move_int rfl rfl <| Plan.nil (k234 _ _ ?_); clear k234
     obtain ⟨m252, hI253, hR0253⟩ := hR
     refine W.cutN (fun e w => ∃ y_m252 : Nat → BitVec 8, m252 = y_m252 ∧ EnvHas e [(0, .pointer (some ⟨bc1, 0, none⟩)), (1, .slice akey6 key6.length ckey6), (4, .pointer (some ⟨b8, 0, none⟩)), (5, VU .u8 power217), (11, VN t182)] ∧ St B w0 (⟨some b8, 0, 240, fun q => VU .u8 (y_m252 q), true⟩ :: ⟨some bc1, 0, 240, fun q => VU .u8 (ckeys2 q), true⟩ :: ⟨some bc1, 240, 256, fun q => VU .u8 (ct3 q), true⟩ :: ⟨some bc1, 496, 256, fun q => VU .u8 (ct4 q), true⟩ :: ⟨some bc1, 752, 256, fun q => VU .u8 (ct5 q), true⟩ :: L) w) ?_ ?_
     ·
      refine W.block ?_
      refine W.iter hI253 (fun (s253 : (Nat × (Nat → BitVec 8))) e w => EnvHas e [(0, .pointer (some ⟨bc1, 0, none⟩)), (1, .slice akey6 key6.length ckey6), (4, .pointer (some ⟨b8, 0, none⟩)), (5, VU .u8 power217), (6, VN t182), (7, .pointer (some ⟨b201, 0, none⟩)), (11, VN t182), (104, VN s253.1)] ∧ St B w0 (⟨some b201, 0, 4, fun q => VU .u8 (m218 q), true⟩ :: ⟨some b8, 0, 240, fun q => VU .u8 (s253.2 q), true⟩ :: ⟨some bc1, 0, 240, fun q => VU .u8 (ckeys2 q), true⟩ :: ⟨some bc1, 240, 256, fun q => VU .u8 (ct3 q), true⟩ :: ⟨some bc1, 496, 256, fun q => VU .u8 (ct4 q), true⟩ :: ⟨some bc1, 752, 256, fun q => VU .u8 (ct5 q), true⟩ :: L) w) ⟨(zer (zer (zer (zer (zer (zer (zer (zer zen)))))))), h233⟩ ?_
      rintro ⟨t250, m251⟩ o253 hR hx253 ev254 wl254 ⟨he254, h254⟩
      obtain ⟨ev254, rfl⟩ := he254.open
      unfold aes_Cipher_expand_l1 at hR
      refine W.seq_k fun _ k255 => W.regionT [(0, true)] (by kernel_rfl) ?_
      refine Plan.cmpP (a := (((t250 : Nat) : Int) : Int)) (b := (4 : Int)) (p := t250 < 4) rfl rfl rfl rfl icmp_ltN <| Plan.nil (k255 _ _ ?_); clear k255
      refine W.seq_k fun _ k256 => ?_
      by_cases hc257 : t250 < 4
      ·
       replace hR := ifT hR hc257
       refine W.condT (congrArg Value.bool (decide_eq_true hc257)) ?_
       refine W.skip ?_
       refine k256 _ _ ?_; clear k256
       refine W.seq_k fun _ k258 => ?_
       refine W.block ?_
       refine W.seq_k fun _ k259 => W.regionT [(0, true), (1, true)] (by kernel_rfl) ?_
       refine Plan.move_int rfl rfl <| Plan.assign_int rfl rfl <| Plan.nil (k259 _ _ ?_); clear k259
       refine W.regionD FAes.mixed [(0, true), (1, true), (2, true), (3, true), (4, true), (5, true), (6, true), (7, true), (8, true), (9, true), (10, true), (11, true), (12, true), (13, true), (14, false)] (by kernel_rfl) ?_
       have h260 := h254.drew
       refine Plan.move_int rfl rfl <| Plan.move_int rfl rfl <| Plan.move_int rfl rfl <| Plan.subN (a := t182) (b := 8) rfl rfl rfl (by omega) <| Plan.move_int rfl rfl <| Plan.idxArrO (j := (t182 - 8)) (o' := 0 + ((t182 - 8) * 4)) FAes.arr77 rfl rfl rfl (by omega) (by omega) <| Plan.idxArrO (j := t250) (o' := 0 + ((t182 - 8) * 4 + t250)) FAes.arr76 rfl rfl rfl (by omega) (by omega) <| Plan.load1 (j := (t182 - 8) * 4 + t250) h260 1 rfl rfl rfl (by omega) FAes.sc5 ?_
       refine Plan.move_int rfl rfl <| Plan.idxArr1 (j := t250) FAes.arr76 rfl rfl rfl (by omega) <| Plan.load1 (j := t250) h260 0 rfl rfl rfl (by omega) FAes.sc5 <| Plan.xorU .u8 (X := (m251 ((t182 - 8) * 4 + t250))) (Y := (m218 t250)) rfl rfl rfl <| Plan.idxArrO (j := t182) (o' := 0 + (t182 * 4)) FAes.arr77 rfl rfl rfl (by omega) (by omega) <| Plan.idxArrO (j := t250) (o' := 0 + (t182 * 4 + t250)) FAes.arr76 rfl rfl rfl (by omega) (by omega) ?_
       refine Plan.storeU (j := t182 * 4 + t250) (X := ((m251 ((t182 - 8) * 4 + t250)) ^^^ (m218 t250))) h260 1 rfl rfl rfl rfl (by omega) FAes.sz5 rfl fun w261 h261 => ?_
       simp only [zca, zna, zsz, zss] at h261
       refine Plan.nil ?_
       refine blockR_norm ?_
       refine k258 _ _ ?_; clear k258
       refine W.regionT [(0, true), (1, true)] (by kernel_rfl) ?_
       refine Plan.addN (a := t250) (b := 1) rfl rfl rfl (by omega) <| Plan.move_int rfl rfl <| Plan.nil ?_
       exact iterR_norm ⟨_, hR, (zer (zer (zer (zer (zer (zer (zer (zer zen)))))))), h261⟩
      ·
       replace hR := ifF hR hc257
       refine W.condF (congrArg Value.bool (decide_eq_false hc257)) ?_
       refine W.exit (thenR_exit (iterR_exit (blockR_here ?_)))
       have h262 := St.pickT (C := [_, _, _, _, _, _]) h254 [1, 2, 3, 4, 5] (by decide)
       simp only [pick, zfc, zfn, zgz, zgs, zca, zna] at h262
       exact ⟨m251, (hx253 _ hR).symm, (zer (zer (zer (zer (zer zen))))), h262⟩
     ·
      rintro ev263 wl263 ⟨y_m252, hy263, he263, h263⟩
      obtain ⟨ev263, rfl⟩ := he263.open
      subst hy263
      replace hR := hR0253
      refine blockR_norm ?_
      refine k190 _ _ ?_; clear k190
      refine W.regionT [(0, true), (1, true)] (by kernel_rfl) ?_
      refine Plan.addN (a := t182) (b := 1) rfl rfl rfl (by omega) <| Plan.move_int rfl rfl <| Plan.nil ?_
      exact iterR_norm ⟨_, hR, (zer (zer (zer (zer (zer zen))))), h263⟩
  ·
   replace hR := ifF hR hc189
   refine W.condF (congrArg Value.bool (decide_eq_false hc189)) ?_
   refine W.exit (thenR_exit (iterR_exit (blockR_here ?_)))
   exact ⟨m183, (hx185 _ hR).symm, (zer (zer zen)), h186⟩
 ·
  rintro ev264 wl264 ⟨y_m184, hy264, he264, h264⟩
  obtain ⟨ev264, rfl⟩ := he264.open
  subst hy264
  replace hR := hR0185
  refine k10 _ _ ?_; clear k10
  refine W.seq_k fun _ k265 => W.regionT [(0, true), (1, true)] (by kernel_rfl) ?_
  refine Plan.loadA1 h264 0 rfl rfl rfl FAes.agg77 <| Plan.move_int rfl rfl <| Plan.nil (k265 _ _ ?_); clear k265
  obtain ⟨m289, hI290, hR0290⟩ := hR
  refine W.cutN (fun e w => ∃ y_m289 : Nat → BitVec 8, m289 = y_m289 ∧ EnvHas e [] ∧ St B w0 (⟨some bc1, 0, 240, fun q => VU .u8 (y_m289 q), true⟩ :: ⟨some bc1, 240, 256, fun q => VU .u8 (ct3 q), true⟩ :: ⟨some bc1, 496, 256, fun q => VU .u8 (ct4 q), true⟩ :: ⟨some bc1, 752, 256, fun q => VU .u8 (ct5 q), true⟩ :: L) w) ?_ ?_
  ·
   refine W.block ?_
   have h291 := St.pickT (C := [_, _, _, _, _]) h264 [1, 2, 3, 4] (by decide)
   simp only [pick, zfc, zfn, zgz, zgs, zca, zna] at h291
   refine W.iter hI290 (fun (s290 : (Nat × (Nat → BitVec 8))) e w => EnvHas e [(0, .pointer (some ⟨bc1, 0, none⟩)), (123, AG [(240, fun q => VU .u8 (m184 q))]), (124, VN s290.1)] ∧ St B w0 (⟨some bc1, 0, 240, fun q => VU .u8 (s290.2 q), true⟩ :: ⟨some bc1, 240, 256, fun q => VU .u8 (ct3 q), true⟩ :: ⟨some bc1, 496, 256, fun q => VU .u8 (ct4 q), true⟩ :: ⟨some bc1, 752, 256, fun q => VU .u8 (ct5 q), true⟩ :: L) w) ⟨(zer (zer (zer zen))), h291⟩ ?_
   rintro ⟨t287, m288⟩ o290 hR hx290 ev292 wl292 ⟨he292, h292⟩
   obtain ⟨ev292, rfl⟩ := he292.open
   unfold aes_Cipher_expand_l2 at hR
   refine W.seq_k fun _ k293 => W.regionT [(0, true)] (by kernel_rfl) ?_
   refine Plan.cmpP (a := (((t287 : Nat) : Int) : Int)) (b := (60 : Int)) (p := t287 < 60) rfl rfl rfl rfl icmp_ltN <| Plan.nil (k293 _ _ ?_); clear k293
   refine W.seq_k fun _ k294 => ?_
   by_cases hc295 : t287 < 60
   ·
    replace hR := ifT hR hc295
    refine W.condT (congrArg Value.bool (decide_eq_true hc295)) ?_
    refine W.skip ?_
    refine k294 _ _ ?_; clear k294
    refine W.seq_k fun _ k296 => ?_
    refine W.block ?_
    refine W.seq_k fun _ k297 => W.regionT [(0, true), (1, true), (2, false), (3, true), (4, false)] (by kernel_rfl) ?_
    refine Plan.move_int rfl rfl <| Plan.indexAA (j := t287) (sz := 4) FAes.isarr77 FAes.agg76 rfl rfl rfl (by omega) (by decide) ?_
    refine Plan.alloc h292 rfl FAes.z76 PIn.nil fun b298 w298 hb298 h298 => ?_
    simp only [rngs, Nat.zero_add, Nat.reduceAdd, zca, zna] at h298
    refine Plan.assign_int rfl rfl ?_
    refine Plan.storeA (f' := fun q => VU .u8 ((fun q => m184 (t287 * 4 + q)) q)) h298 0 rfl rfl rfl rfl (fun _ _ => rfl) FAes.sz76 rfl fun w299 h299 => ?_
    simp only [zca, zna, zsz, zss] at h299
    refine Plan.nil (k297 _ _ ?_); clear k297
    refine W.regionD FAes.mixed [(0, true), (1, true), (2, true), (3, true), (4, true), (5, true), (6, true), (7, true), (8, true), (9, true), (10, true), (11, false)] (by kernel_rfl) ?_
    have h300 := h299.drew
    refine Plan.move_ptr rfl rfl <| Plan.move_int rfl rfl <| Plan.quoN (a := t287) (b := 4) rfl rfl rfl (by omega) <| Plan.nilCheck rfl rfl <| Plan.fieldAddr0 FAes.fld67_0 rfl rfl <| Plan.idxArrO (j := (t287 / 4)) (o' := 0 + ((t287 / 4) * 16)) FAes.arr65 rfl rfl rfl (by omega) (by omega) <| Plan.move_int rfl rfl <| Plan.remN (a := t287) (b := 4) rfl rfl rfl (by omega) ?_
    refine Plan.mulN (a := 4) (b := (t287 % 4)) rfl rfl rfl (by omega) ?_
    obtain ⟨hc301, hR⟩ := hR
    refine Plan.slArrO (lo := (4 * (t287 % 4))) (hi := 16) (m := (16 - (4 * (t287 % 4)))) (c := (16 - (4 * (t287 % 4)))) (o' := 0 + ((t287 / 4) * 16 + (4 * (t287 % 4)))) FAes.arr27 rfl rfl ⟨_, rfl⟩ rfl (by omega) (by omega) (by omega) (by omega) <| Plan.slArrO (lo := 0) (hi := 4) (m := 4) (c := 4) (o' := 0) FAes.arr76 rfl rfl rfl rfl (by omega) (by omega) (by omega) (by omega) ?_
    refine Plan.copyB (jd := (t287 / 4) * 16 + (4 * (t287 % 4))) (X := (dl 4 (fun q => m184 (t287 * 4 + q)))) h300 1 (min 4 (16 - (4 * (t287 % 4)))) FAes.sl28 rfl rfl rfl rfl ((Bx.arr0 (n := 4) (cc := 4) 0 rfl (by omega) (by omega)).bs' 1 rfl) (fun _ => ⟨_, rfl, rfl⟩) rfl rfl (by omega) (EffO.keep PIn.nil) fun w302 h302 => ?_
    simp only [zca, zna, zsz, zss] at h302
    refine Plan.nil ?_
    refine blockR_norm ?_
    refine k296 _ _ ?_; clear k296
    refine W.regionT [(0, true), (1, true)] (by kernel_rfl) ?_
    refine Plan.addN (a := t287) (b := 1) rfl rfl rfl (by omega) <| Plan.move_int rfl rfl <| Plan.nil ?_
    have h303 := St.pickT (C := [_, _, _, _, _]) h302 [1, 2, 3, 4] (by decide)
    simp only [pick, zfc, zfn, zgz, zgs, zca, zna] at h303
    exact iterR_norm ⟨_, hR, (zer (zer (zer zen))), h303⟩
   ·
    replace hR := ifF hR hc295
    refine W.condF (congrArg Value.bool (decide_eq_false hc295)) ?_
    refine W.exit (thenR_exit (iterR_exit (blockR_here ?_)))
    exact ⟨m288, (hx290 _ hR).symm, zen, h292⟩
  ·
   rintro ev304 wl304 ⟨y_m289, hy304, he304, h304⟩
   obtain ⟨ev304, rfl⟩ := he304.open
   subst hy304
   replace hR := hR0290
   refine finR_norm ?_
   subst r
   refine RetOk.mk .nil ?_
   exact ⟨rfl, h304⟩
theorem aes_New_ok {B : Nat} {w0 w : World} {L : List Rg} {key1 : List Byte} {akey1 : Option Addr} {nkey1 ckey1 ikey1 : Nat} (hkey1 : Bx L ikey1 akey1 nkey1 ckey1 key1) {r : Nat ⊕ ((Nat → BitVec 8) × (Nat → BitVec 8) × (Nat → BitVec 8) × (Nat → BitVec 8) × Nat)} (hR : aes_New key1 r) (HST : St B w0 (L) w) :
  Calls Try.prog 19 #[.slice akey1 nkey1 ckey1] w fun e w' => match r with | .inl z => e = .returned (.tuple #[.pointer none, VN z]) ∧ St B w0 (L) w' | .inr z => ∃ b0 : Nat, e = .returned (.tuple #[.pointer (some ⟨b0, 0, none⟩), VN z.2.2.2.2]) ∧ St B w0 (⟨some b0, 0, 240, fun q => VU .u8 (z.1 q), true⟩ :: ⟨some b0, 240, 256, fun q => VU .u8 (z.2.1 q), true⟩ :: ⟨some b0, 496, 256, fun q => VU .u8 (z.2.2.1 q), true⟩ :: ⟨some b0, 752, 256, fun q => VU .u8 (z.2.2.2.1 q), true⟩ :: L) w' := by
 refine W.enter 15 Try.func19 rfl rfl rfl ?_
 unfold aes_New at hR
 have ekey1 := hkey1.hl; subst ekey1
 refine W.seq_k fun _ k2 => W.regionT [(0, true), (1, true)] (by kernel_rfl) ?_
 refine Plan.assign_ptr rfl rfl <| Plan.assign_int rfl rfl <| Plan.nil (k2 _ _ ?_); clear k2
 refine W.seq_k fun _ k3 => W.seq_k fun _ k4 => ?_
 refine W.regionT [(0, true), (1, true), (2, true)] (by kernel_rfl) ?_
 refine Plan.move_slice rfl rfl <| Plan.len FAes.isl28 rfl rfl <| Plan.cmpP (a := (((key1.length : Nat) : Int) : Int)) (b := (32 : Int)) (p := key1.length ≠ 32) rfl rfl rfl rfl icmp_neN <| Plan.nil (k4 _ _ ?_); clear k4
 by_cases hc5 : key1.length ≠ 32
 ·
  replace hR := ifT hR hc5
  refine W.condT (congrArg Value.bool (decide_eq_true hc5)) ?_
  refine W.seq_k fun _ k6 => W.regionT [(0, true), (1, true)] (by kernel_rfl) ?_
  refine Plan.assign_ptr rfl rfl <| Plan.assign_int rfl rfl <| Plan.nil (k6 _ _ ?_); clear k6
  refine W.ret (thenR_ret (finR_ret ?_))
  subst r
  refine RetOk.mk (.tmp_ptr rfl (.tmp_int rfl .nil)) ?_
  exact ⟨rfl, HST⟩
 ·
  replace hR := ifF hR hc5
  refine W.condF (congrArg Value.bool (decide_eq_false hc5)) ?_
  refine W.skip ?_
  refine k3 _ _ ?_; clear k3
  refine W.seq_k fun _ k7 => W.regionT [(0, false), (1, true), (2, false), (3, true)] (by kernel_rfl) ?_
  obtain ⟨x_9, x_10, x_11, hr8, hR⟩ := hR
  refine Plan.call (vs := []) rfl FAes.call23 rfl (aes_fill_ok  hr8 HST) ?_
  rintro _ w12 ⟨rfl, h12⟩
  refine ⟨_, rfl, .inl ⟨PIn.keep PIn.nil h12, ?_⟩⟩
  refine Plan.buildP (ps := [(240, fun q => VU .u8 ((fun _ => 0#8) q)), (256, fun q => VU .u8 (x_9 q)), (256, fun q => VU .u8 (x_10 q)), (256, fun q => VU .u8 (x_11 q))]) FAes.pl67 (by decide) FAes.z67 rfl rfl (.agg [(240, fun q => VU .u8 ((fun _ => 0#8) q))] [(256, fun q => VU .u8 ((fun _ => 0#8) q)), (256, fun q => VU .u8 ((fun _ => 0#8) q)), (256, fun q => VU .u8 ((fun _ => 0#8) q))] [] [(256, fun q => VU .u8 (x_9 q)), (256, fun q => VU .u8 (x_10 q)), (256, fun q => VU .u8 (x_11 q))] rfl rfl .nil) ?_
  refine Plan.boxA h12 rfl rfl PIn.nil fun b13 w13 hb13 h13 => ?_
  simp only [rngs, Nat.zero_add, Nat.reduceAdd, zca, zna] at h13
  refine Plan.assign_ptr rfl rfl <| Plan.nil (k7 _ _ ?_); clear k7
  refine W.seq_k fun _ k14 => W.regionT [(0, true), (1, true), (2, false)] (by kernel_rfl) ?_
  refine Plan.move_ptr rfl rfl <| Plan.move_slice rfl rfl ?_
  obtain ⟨x_16, hr15, hR⟩ := hR
  refine Plan.call (vs := [.pointer (some ⟨b13, 0, none⟩), .slice akey1 key1.length ckey1]) rfl FAes.call26 rfl (aes_Cipher_expand_ok hkey1 hr15 h13) ?_
  rintro _ w17 ⟨rfl, h17⟩
  refine ⟨_, rfl, .inl ⟨PIn.keep PIn.nil h17, ?_⟩⟩
  refine Plan.nil (k14 _ _ ?_); clear k14
  refine W.seq_k fun _ k18 => W.regionT [(0, true), (1, true), (2, true)] (by kernel_rfl) ?_
  refine Plan.move_ptr rfl rfl <| Plan.assign_ptr rfl rfl <| Plan.assign_int rfl rfl <| Plan.nil (k18 _ _ ?_); clear k18
  refine W.ret (finR_ret ?_)
  subst r
  refine RetOk.mk (.tmp_ptr rfl (.tmp_int rfl .nil)) ?_
  exact ⟨b13, rfl, h17⟩
theorem aes_Box_ok {B : Nat} {w0 w : World} {L : List Rg} {a1 : BitVec 8} {r : (BitVec 8)} (hR : aes_Box a1 r) (HST : St B w0 (L) w) :
  Calls Try.prog 10 #[VU .u8 a1] w fun e w' => e = .returned (VU .u8 r) ∧ St B w0 (L) w' := by
 refine W.enter 9 Try.func10 rfl rfl rfl ?_
 unfold aes_Box at hR
 refine W.seq_k fun _ k2 => W.regionT [(0, true)] (by kernel_rfl) ?_
 refine Plan.assign_int rfl rfl <| Plan.nil (k2 _ _ ?_); clear k2
 refine W.seq_k fun _ k3 => W.regionT [(0, false), (1, false), (2, false)] (by kernel_rfl) ?_
 obtain ⟨x_5, x_6, x_7, hr4, hR⟩ := hR
 refine Plan.call (vs := []) rfl FAes.call23 rfl (aes_fill_ok  hr4 HST) ?_
 rintro _ w8 ⟨rfl, h8⟩
 refine ⟨_, rfl, .inl ⟨PIn.keep PIn.nil h8, ?_⟩⟩
 refine Plan.alloc h8 rfl FAes.z61 PIn.nil fun b9 w9 hb9 h9 => ?_
 simp only [rngs, Nat.zero_add, Nat.reduceAdd, zca, zna] at h9
 refine Plan.storeP (ps := [(256, fun q => VU .u8 (x_5 q)), (256, fun q => VU .u8 (x_6 q)), (256, fun q => VU .u8 (x_7 q))]) h9 rfl rfl rfl (.cons 0 rfl (.cons 1 rfl (.cons 2 rfl .nil))) ⟨fun _ _ => rfl, fun _ _ => rfl, fun _ _ => rfl, trivial⟩ FAes.sz61 (EffO.keep PIn.nil) fun w10 h10 => ?_
 simp only [zca, zna, zsz, zss] at h10
 refine Plan.nil (k3 _ _ ?_); clear k3
 refine W.seq_k fun _ k11 => W.regionT [(0, true), (1, true), (2, true), (3, true), (4, true)] (by kernel_rfl) ?_
 refine Plan.move_int rfl rfl <| Plan.fieldAddr0 FAes.fld61_0 rfl rfl <| Plan.idxArr1 (j := a1.toNat) FAes.arr59 rfl rfl rfl a1.isLt <| Plan.load1 (j := a1.toNat) h10 0 rfl rfl rfl (by first | omega | exact a1.isLt) FAes.sc5 <| Plan.assign_int rfl rfl <| Plan.nil (k11 _ _ ?_); clear k11
 refine W.ret (finR_ret ?_)
 have h12 := St.pickT (C := [_, _, _]) h10 [] (by decide)
 simp only [pick, zfc, zfn, zgz, zgs, zca, zna] at h12
 subst r
 refine RetOk.mk (.tmp_int rfl .nil) ?_
 exact ⟨rfl, h12⟩
theorem aes_Unbox_ok {B : Nat} {w0 w : World} {L : List Rg} {a1 : BitVec 8} {r : (BitVec 8)} (hR : aes_Unbox a1 r) (HST : St B w0 (L) w) :
  Calls Try.prog 18 #[VU .u8 a1] w fun e w' => e = .returned (VU .u8 r) ∧ St B w0 (L) w' := by
 refine W.enter 9 Try.func18 rfl rfl rfl ?_
 unfold aes_Unbox at hR
 refine W.seq_k fun _ k2 => W.regionT [(0, true)] (by kernel_rfl) ?_
 refine Plan.assign_int rfl rfl <| Plan.nil (k2 _ _ ?_); clear k2
 refine W.seq_k fun _ k3 => W.regionT [(0, false), (1, false), (2, false)] (by kernel_rfl) ?_
 obtain ⟨x_5, x_6, x_7, hr4, hR⟩ := hR
 refine Plan.call (vs := []) rfl FAes.call23 rfl (aes_fill_ok  hr4 HST) ?_
 rintro _ w8 ⟨rfl, h8⟩
 refine ⟨_, rfl, .inl ⟨PIn.keep PIn.nil h8, ?_⟩⟩
 refine Plan.alloc h8 rfl FAes.z61 PIn.nil fun b9 w9 hb9 h9 => ?_
 simp only [rngs, Nat.zero_add, Nat.reduceAdd, zca, zna] at h9
 refine Plan.storeP (ps := [(256, fun q => VU .u8 (x_5 q)), (256, fun q => VU .u8 (x_6 q)), (256, fun q => VU .u8 (x_7 q))]) h9 rfl rfl rfl (.cons 0 rfl (.cons 1 rfl (.cons 2 rfl .nil))) ⟨fun _ _ => rfl, fun _ _ => rfl, fun _ _ => rfl, trivial⟩ FAes.sz61 (EffO.keep PIn.nil) fun w10 h10 => ?_
 simp only [zca, zna, zsz, zss] at h10
 refine Plan.nil (k3 _ _ ?_); clear k3
 refine W.seq_k fun _ k11 => W.regionT [(0, true), (1, true), (2, true), (3, true), (4, true)] (by kernel_rfl) ?_
 refine Plan.move_int rfl rfl <| Plan.fieldAddr 256 FAes.fld61_1 rfl rfl <| Plan.idxArr1 (j := a1.toNat) FAes.arr59 rfl rfl rfl a1.isLt <| Plan.load1 (j := a1.toNat) h10 1 rfl rfl rfl (by first | omega | exact a1.isLt) FAes.sc5 <| Plan.assign_int rfl rfl <| Plan.nil (k11 _ _ ?_); clear k11
 refine W.ret (finR_ret ?_)
 have h12 := St.pickT (C := [_, _, _]) h10 [] (by decide)
 simp only [pick, zfc, zfn, zgz, zgs, zca, zna] at h12
 subst r
 refine RetOk.mk (.tmp_int rfl .nil) ?_
 exact ⟨rfl, h12⟩
theorem aes_Next_ok {B : Nat} {w0 w : World} {L : List Rg} {block1 : Nat → BitVec 8} {n_2 : BitVec 64} {r : (Nat → BitVec 8)} (hR : aes_Next block1 n_2 r) (HST : St B w0 (L) w) :
  Calls Try.prog 16 #[AG [(16, fun q => VU .u8 (block1 q))], VU .u64 n_2] w fun e w' => e = .returned (AG [(16, fun q => VU .u8 (r q))]) ∧ St B w0 (L) w' := by
 refine W.enter 30 Try.func16 rfl rfl rfl ?_
 unfold aes_Next at hR
 refine W.seq_k fun _ k3 => W.regionT [(0, false), (1, false)] (by kernel_rfl) ?_
 refine Plan.boxA HST rfl rfl PIn.nil fun b4 w4 hb4 h4 => ?_
 simp only [rngs, Nat.zero_add, Nat.reduceAdd, zca, zna] at h4
 refine Plan.alloc h4 rfl FAes.z27 PIn.nil fun b5 w5 hb5 h5 => ?_
 simp only [rngs, Nat.zero_add, Nat.reduceAdd, zca, zna] at h5
 refine Plan.nil (k3 _ _ ?_); clear k3
 refine W.seq_k fun _ k6 => W.regionT [(0, true)] (by kernel_rfl) ?_
 refine Plan.assign_int rfl rfl <| Plan.nil (k6 _ _ ?_); clear k6
 refine W.seq_k fun _ k7 => W.seq_k fun _ k8 => ?_
 refine W.regionT [(0, true)] (by kernel_rfl) ?_
 refine Plan.assign_int rfl rfl <| Plan.nil (k8 _ _ ?_); clear k8
 obtain ⟨m50, hI51, hR051⟩ := hR
 refine W.cutN (fun e w => ∃ y_m50 : Nat → BitVec 8, m50 = y_m50 ∧ EnvHas e [(2, .pointer (some ⟨b4, 0, none⟩)), (4, .pointer (some ⟨b5, 0, none⟩))] ∧ St B w0 (⟨some b5, 0, 16, fun q => VU .u8 ((fun _ => 0#8) q), true⟩ :: ⟨some b4, 0, 16, fun q => VU .u8 (y_m50 q), true⟩ :: L) w) ?_ ?_
 ·
  refine W.block ?_
  refine W.iter hI51 (fun (s51 : ((BitVec 64) × (BitVec 64) × Int × (Nat → BitVec 8))) e w => EnvHas e [(1, VU .u64 s51.1), (2, .pointer (some ⟨b4, 0, none⟩)), (4, .pointer (some ⟨b5, 0, none⟩)), (5, VU .u64 s51.2.1), (6, .int .i64 s51.2.2.1)] ∧ St B w0 (⟨some b5, 0, 16, fun q => VU .u8 ((fun _ => 0#8) q), true⟩ :: ⟨some b4, 0, 16, fun q => VU .u8 (s51.2.2.2 q), true⟩ :: L) w) ⟨(zer (zer (zer (zer (zer zen))))), h5⟩ ?_
  rintro ⟨n_46, carry47, i_48, m49⟩ o51 hR hx51 ev52 wl52 ⟨he52, h52⟩
  obtain ⟨ev52, rfl⟩ := he52.open
  unfold aes_Next_l0 at hR
  refine W.seq_k fun _ k53 => W.seq_k fun _ k54 => ?_
  refine W.regionT [(0, true), (1, true)] (by kernel_rfl) ?_
  refine Plan.move_int rfl rfl <| Plan.cmpP (a := (i_48 : Int)) (b := (0 : Int)) (p := 0 ≤ i_48) rfl rfl rfl rfl icmp_ge <| Plan.nil (k54 _ _ ?_); clear k54
  by_cases hc55 : 0 ≤ i_48
  ·
   replace hR := ifT hR hc55
   refine W.condT (congrArg Value.bool (decide_eq_true hc55)) ?_
   refine W.skip ?_
   refine k53 _ _ ?_; clear k53
   refine W.seq_k fun _ k56 => ?_
   refine W.block ?_
   refine W.seq_k fun _ k57 => W.regionT [(0, true), (1, true), (2, true), (3, true), (4, true), (5, true), (6, true), (7, true), (8, true), (9, true)] (by kernel_rfl) ?_
   refine Plan.move_int rfl rfl ?_
   obtain ⟨hc58, hR⟩ := hR
   refine Plan.idxArr1 (j := i_48.toNat) FAes.arr27 rfl rfl (congrArg (Value.int .i64) (Int.toNat_of_nonneg hc58.1).symm) (by omega) <| Plan.load1 (j := i_48.toNat) h52 1 rfl rfl rfl (by omega) FAes.sc5 <| Plan.convUU .u64 (X := (m49 i_48.toNat)) FAes.u29 FAes.some5 rfl rfl <| Plan.move_int rfl rfl <| Plan.andU .u64 (X := n_46) (Y := 255#64) rfl rfl rfl <| Plan.addU .u64 (X := ((m49 i_48.toNat).setWidth 64)) (Y := (n_46 &&& (255#64))) rfl rfl rfl <| Plan.move_int rfl rfl <| Plan.addU .u64 (X := (((m49 i_48.toNat).setWidth 64) + (n_46 &&& (255#64)))) (Y := carry47) rfl rfl rfl ?_
   refine Plan.assign_int rfl rfl <| Plan.nil (k57 _ _ ?_); clear k57
   refine W.seq_k fun _ k59 => W.regionT [(0, true), (1, true), (2, true), (3, true), (4, false)] (by kernel_rfl) ?_
   refine Plan.move_int rfl rfl <| Plan.move_int rfl rfl <| Plan.convUU .u8 (X := ((((m49 i_48.toNat).setWidth 64) + (n_46 &&& (255#64))) + carry47)) FAes.u5 FAes.some29 rfl rfl ?_
   obtain ⟨hc60, hR⟩ := hR
   refine Plan.idxArr1 (j := i_48.toNat) FAes.arr27 rfl rfl (congrArg (Value.int .i64) (Int.toNat_of_nonneg hc60.1).symm) (by omega) ?_
   refine Plan.storeU (j := i_48.toNat) (X := (((((m49 i_48.toNat).setWidth 64) + (n_46 &&& (255#64))) + carry47).setWidth 8)) h52 1 rfl rfl rfl rfl (by omega) FAes.sz5 rfl fun w61 h61 => ?_
   simp only [zca, zna, zsz, zss] at h61
   refine Plan.nil (k59 _ _ ?_); clear k59
   refine W.seq_k fun _ k62 => W.regionT [(0, true), (1, true), (2, true)] (by kernel_rfl) ?_
   refine Plan.move_int rfl rfl <| Plan.shrU .u64 (X := ((((m49 i_48.toNat).setWidth 64) + (n_46 &&& (255#64))) + carry47)) (c := 8) rfl rfl rfl <| Plan.assign_int rfl rfl <| Plan.nil (k62 _ _ ?_); clear k62
   refine W.regionT [(0, true), (1, true), (2, true)] (by kernel_rfl) ?_
   refine Plan.move_int rfl rfl <| Plan.shrU .u64 (X := n_46) (c := 8) rfl rfl rfl <| Plan.assign_int rfl rfl <| Plan.nil ?_
   refine blockR_norm ?_
   refine k56 _ _ ?_; clear k56
   refine W.regionT [(0, true), (1, true), (2, true)] (by kernel_rfl) ?_
   refine Plan.move_int rfl rfl ?_
   obtain ⟨hc63, hR⟩ := hR
   refine Plan.subI (a := i_48) (b := 1) rfl rfl rfl (by omega) <| Plan.assign_int rfl rfl <| Plan.nil ?_
   exact iterR_norm ⟨_, hR, (zer (zer (zer (zer (zer zen))))), h61⟩
  ·
   replace hR := ifF hR hc55
   refine W.condF (congrArg Value.bool (decide_eq_false hc55)) ?_
   refine W.exit (thenR_exit (iterR_exit (blockR_here ?_)))
   exact ⟨m49, (hx51 _ hR).symm, (zer (zer zen)), h52⟩
 ·
  rintro ev64 wl64 ⟨y_m50, hy64, he64, h64⟩
  obtain ⟨ev64, rfl⟩ := he64.open
  subst hy64
  replace hR := hR051
  refine k7 _ _ ?_; clear k7
  refine W.seq_k fun _ k65 => W.regionT [(0, true), (1, false)] (by kernel_rfl) ?_
  refine Plan.loadA1 h64 1 rfl rfl rfl FAes.agg27 ?_
  refine Plan.storeA (f' := fun q => VU .u8 (m50 q)) h64 0 rfl rfl rfl rfl (fun _ _ => rfl) FAes.sz27 rfl fun w66 h66 => ?_
  simp only [zca, zna, zsz, zss] at h66
  refine Plan.nil (k65 _ _ ?_); clear k65
  refine W.ret (finR_ret ?_)
  have h67 := St.pickT (C := [_, _]) h66 [] (by decide)
  simp only [pick, zfc, zfn, zgz, zgs, zca, zna] at h67
  subst r
  refine RetOk.mk (.agg h66 rfl (.cons 0 rfl .nil) FAes.agg27 .nil) ?_
  exact ⟨rfl, h67⟩
theorem aes_Cipher_add_ok {B : Nat} {w0 w : World} {L : List Rg} {bc1 : Nat} {ckeys2 : Nat → BitVec 8} {ct3 : Nat → BitVec 8} {ct4 : Nat → BitVec 8} {ct5 : Nat → BitVec 8} {bs6 : Nat} {s7 : Nat → BitVec 8} {round8 : Int} {r : (Nat → BitVec 8)} (hR : aes_Cipher_add ckeys2 ct3 ct4 ct5 s7 round8 r) (HST : St B w0 (⟨some bc1, 0, 240, fun q => VU .u8 (ckeys2 q), true⟩ :: ⟨some bc1, 240, 256, fun q => VU .u8 (ct3 q), true⟩ :: ⟨some bc1, 496, 256, fun q => VU .u8 (ct4 q), true⟩ :: ⟨some bc1, 752, 256, fun q => VU .u8 (ct5 q), true⟩ :: ⟨some bs6, 0, 16, fun q => VU .u8 (s7 q), true⟩ :: L) w) :
  Calls Try.prog 24 #[.pointer (some ⟨bc1, 0, none⟩), .pointer (some ⟨bs6, 0, none⟩), .int .i64 round8] w fun e w' => e = .returned (.tuple #[]) ∧ St B w0 (⟨some bc1, 0, 240, fun q => VU .u8 (ckeys2 q), true⟩ :: ⟨some bc1, 240, 256, fun q => VU .u8 (ct3 q), true⟩ :: ⟨some bc1, 496, 256, fun q => VU .u8 (ct4 q), true⟩ :: ⟨some bc1, 752, 256, fun q => VU .u8 (ct5 q), true⟩ :: ⟨some bs6, 0, 16, fun q => VU .u8 (r q), true⟩ :: L) w' := by
 refine W.enter 28 Try.func24 rfl rfl rfl ?_
 unfold aes_Cipher_add at hR
 refine W.seq_k fun _ k9 => W.regionT [(0, true), (1, true), (2, true), (3, true), (4, true), (5, true), (6, true)] (by kernel_rfl) ?_
 refine Plan.move_ptr rfl rfl <| Plan.move_int rfl rfl <| Plan.nilCheck rfl rfl <| Plan.fieldAddr0 FAes.fld67_0 rfl rfl ?_
 obtain ⟨hc10, hR⟩ := hR
 refine Plan.idxArrO (j := round8.toNat) (o' := 0 + (round8.toNat * 16)) FAes.arr65 rfl rfl (congrArg (Value.int .i64) (Int.toNat_of_nonneg hc10.1).symm) (by omega) (by omega) <| Plan.loadSub (m' := 16) HST 0 (round8.toNat * 16) rfl rfl rfl rfl (by omega) FAes.agg27 <| Plan.move_int rfl rfl <| Plan.nil (k9 _ _ ?_); clear k9
 obtain ⟨m28, hI29, hR029⟩ := hR
 refine W.cutN (fun e w => ∃ y_m28 : Nat → BitVec 8, m28 = y_m28 ∧ EnvHas e [] ∧ St B w0 (⟨some bc1, 0, 240, fun q => VU .u8 (ckeys2 q), true⟩ :: ⟨some bc1, 240, 256, fun q => VU .u8 (ct3 q), true⟩ :: ⟨some bc1, 496, 256, fun q => VU .u8 (ct4 q), true⟩ :: ⟨some bc1, 752, 256, fun q => VU .u8 (ct5 q), true⟩ :: ⟨some bs6, 0, 16, fun q => VU .u8 (y_m28 q), true⟩ :: L) w) ?_ ?_
 ·
  refine W.block ?_
  refine W.iter hI29 (fun (s29 : (Nat × (Nat → BitVec 8))) e w => EnvHas e [(1, .pointer (some ⟨bs6, 0, none⟩)), (13, AG [(16, fun q => VU .u8 ((fun q => ckeys2 ((round8.toNat * 16) + q)) q))]), (14, VN s29.1)] ∧ St B w0 (⟨some bc1, 0, 240, fun q => VU .u8 (ckeys2 q), true⟩ :: ⟨some bc1, 240, 256, fun q => VU .u8 (ct3 q), true⟩ :: ⟨some bc1, 496, 256, fun q => VU .u8 (ct4 q), true⟩ :: ⟨some bc1, 752, 256, fun q => VU .u8 (ct5 q), true⟩ :: ⟨some bs6, 0, 16, fun q => VU .u8 (s29.2 q), true⟩ :: L) w) ⟨(zer (zer (zer zen))), HST⟩ ?_
  rintro ⟨t26, m27⟩ o29 hR hx29 ev30 wl30 ⟨he30, h30⟩
  obtain ⟨ev30, rfl⟩ := he30.open
  unfold aes_Cipher_add_l0 at hR
  refine W.seq_k fun _ k31 => W.regionT [(0, true)] (by kernel_rfl) ?_
  refine Plan.cmpP (a := (((t26 : Nat) : Int) : Int)) (b := (16 : Int)) (p := t26 < 16) rfl rfl rfl rfl icmp_ltN <| Plan.nil (k31 _ _ ?_); clear k31
  refine W.seq_k fun _ k32 => ?_
  by_cases hc33 : t26 < 16
  ·
   replace hR := ifT hR hc33
   refine W.condT (congrArg Value.bool (decide_eq_true hc33)) ?_
   refine W.skip ?_
   refine k32 _ _ ?_; clear k32
   refine W.seq_k fun _ k34 => ?_
   refine W.block ?_
   refine W.seq_k fun _ k35 => W.regionT [(0, true), (1, true), (2, true), (3, true)] (by kernel_rfl) ?_
   refine Plan.move_int rfl rfl <| Plan.indexA (j := t26) FAes.isarr27 FAes.sz5 FAes.sc5 rfl rfl rfl (by omega) (by decide) <| Plan.assign_int rfl rfl <| Plan.assign_int rfl rfl <| Plan.nil (k35 _ _ ?_); clear k35
   refine W.regionD FAes.mixed [(0, true), (1, true), (2, true), (3, true), (4, true), (5, true), (6, true), (7, true), (8, true), (9, false)] (by kernel_rfl) ?_
   have h36 := h30.drew
   refine Plan.move_ptr rfl rfl <| Plan.move_int rfl rfl <| Plan.nilCheck rfl rfl <| Plan.idxArr1 (j := t26) FAes.arr27 rfl rfl rfl (by omega) <| Plan.load1 (j := t26) h36 4 rfl rfl rfl (by omega) FAes.sc5 <| Plan.move_int rfl rfl ?_
   refine Plan.xorU .u8 (X := (m27 t26)) (Y := ((fun q => ckeys2 ((round8.toNat * 16) + q)) t26)) rfl rfl rfl ?_
   refine Plan.nilCheck rfl rfl <| Plan.idxArr1 (j := t26) FAes.arr27 rfl rfl rfl (by omega) ?_
   refine Plan.storeU (j := t26) (X := ((m27 t26) ^^^ ((fun q => ckeys2 ((round8.toNat * 16) + q)) t26))) h36 4 rfl rfl rfl rfl (by omega) FAes.sz5 rfl fun w37 h37 => ?_
   simp only [zca, zna, zsz, zss] at h37
   refine Plan.nil ?_
   refine blockR_norm ?_
   refine k34 _ _ ?_; clear k34
   refine W.regionT [(0, true), (1, true)] (by kernel_rfl) ?_
   refine Plan.addN (a := t26) (b := 1) rfl rfl rfl (by omega) <| Plan.move_int rfl rfl <| Plan.nil ?_
   exact iterR_norm ⟨_, hR, (zer (zer (zer zen))), h37⟩
  ·
   replace hR := ifF hR hc33
   refine W.condF (congrArg Value.bool (decide_eq_false hc33)) ?_
   refine W.exit (thenR_exit (iterR_exit (blockR_here ?_)))
   exact ⟨m27, (hx29 _ hR).symm, zen, h30⟩
 ·
  rintro ev38 wl38 ⟨y_m28, hy38, he38, h38⟩
  obtain ⟨ev38, rfl⟩ := he38.open
  subst hy38
  replace hR := hR029
  refine finR_norm ?_
  subst r
  refine RetOk.mk .nil ?_
  exact ⟨rfl, h38⟩
theorem aes_Cipher_mix_ok {B : Nat} {w0 w : World} {L : List Rg} {bc1 : Nat} {ckeys2 : Nat → BitVec 8} {ct3 : Nat → BitVec 8} {ct4 : Nat → BitVec 8} {ct5 : Nat → BitVec 8} {bs6 : Nat} {s7 : Nat → BitVec 8} {r : (Nat → BitVec 8)} (hR : aes_Cipher_mix ckeys2 ct3 ct4 ct5 s7 r) (HST : St B w0 (⟨some bc1, 0, 240, fun q => VU .u8 (ckeys2 q), true⟩ :: ⟨some bc1, 240, 256, fun q => VU .u8 (ct3 q), true⟩ :: ⟨some bc1, 496, 256, fun q => VU .u8 (ct4 q), true⟩ :: ⟨some bc1, 752, 256, fun q => VU .u8 (ct5 q), true⟩ :: ⟨some bs6, 0, 16, fun q => VU .u8 (s7 q), true⟩ :: L) w) :
  Calls Try.prog 25 #[.pointer (some ⟨bc1, 0, none⟩), .pointer (some ⟨bs6, 0, none⟩)] w fun e w' => e = .returned (.tuple #[]) ∧ St B w0 (⟨some bc1, 0, 240, fun q => VU .u8 (ckeys2 q), true⟩ :: ⟨some bc1, 240, 256, fun q => VU .u8 (ct3 q), true⟩ :: ⟨some bc1, 496, 256, fun q => VU .u8 (ct4 q), true⟩ :: ⟨some bc1, 752, 256, fun q => VU .u8 (ct5 q), true⟩ :: ⟨some bs6, 0, 16, fun q => VU .u8 (r q), true⟩ :: L) w' := by
 refine W.enter 112 Try.func25 rfl rfl rfl ?_
 unfold aes_Cipher_mix at hR
 refine W.seq_k fun _ k8 => W.regionT [(0, true), (1, true), (2, true), (3, true), (4, true)] (by kernel_rfl) ?_
 refine Plan.move_ptr rfl rfl <| Plan.nilCheck rfl rfl <| Plan.fieldAddr 240 FAes.fld67_1 rfl rfl <| Plan.fieldAddr 512 FAes.fld61_2 rfl rfl <| Plan.assign_ptr rfl rfl <| Plan.nil (k8 _ _ ?_); clear k8
 refine W.seq_k fun _ k9 => W.regionT [(0, true)] (by kernel_rfl) ?_
 refine Plan.assign_int rfl rfl <| Plan.nil (k9 _ _ ?_); clear k9
 obtain ⟨m55, hI56, hR056⟩ := hR
 refine W.cutN (fun e w => ∃ y_m55 : Nat → BitVec 8, m55 = y_m55 ∧ EnvHas e [] ∧ St B w0 (⟨some bc1, 0, 240, fun q => VU .u8 (ckeys2 q), true⟩ :: ⟨some bc1, 240, 256, fun q => VU .u8 (ct3 q), true⟩ :: ⟨some bc1, 496, 256, fun q => VU .u8 (ct4 q), true⟩ :: ⟨some bc1, 752, 256, fun q => VU .u8 (ct5 q), true⟩ :: ⟨some bs6, 0, 16, fun q => VU .u8 (y_m55 q), true⟩ :: L) w) ?_ ?_
 ·
  refine W.block ?_
  refine W.iter hI56 (fun (s56 : (Nat × (Nat → BitVec 8))) e w => EnvHas e [(1, .pointer (some ⟨bs6, 0, none⟩)), (4, .pointer (some ⟨bc1, 752, none⟩)), (5, VN s56.1)] ∧ St B w0 (⟨some bc1, 0, 240, fun q => VU .u8 (ckeys2 q), true⟩ :: ⟨some bc1, 240, 256, fun q => VU .u8 (ct3 q), true⟩ :: ⟨some bc1, 496, 256, fun q => VU .u8 (ct4 q), true⟩ :: ⟨some bc1, 752, 256, fun q => VU .u8 (ct5 q), true⟩ :: ⟨some bs6, 0, 16, fun q => VU .u8 (s56.2 q), true⟩ :: L) w) ⟨(zer (zer (zer zen))), HST⟩ ?_
  rintro ⟨i_53, m54⟩ o56 hR hx56 ev57 wl57 ⟨he57, h57⟩
  obtain ⟨ev57, rfl⟩ := he57.open
  unfold aes_Cipher_mix_l0 at hR
  refine W.seq_k fun _ k58 => W.seq_k fun _ k59 => ?_
  refine W.regionT [(0, true), (1, true)] (by kernel_rfl) ?_
  refine Plan.move_int rfl rfl <| Plan.cmpP (a := (((i_53 : Nat) : Int) : Int)) (b := (16 : Int)) (p := i_53 < 16) rfl rfl rfl rfl icmp_ltN <| Plan.nil (k59 _ _ ?_); clear k59
  by_cases hc60 : i_53 < 16
  ·
   replace hR := ifT hR hc60
   refine W.condT (congrArg Value.bool (decide_eq_true hc60)) ?_
   refine W.skip ?_
   refine k58 _ _ ?_; clear k58
   refine W.seq_k fun _ k61 => ?_
   refine W.block ?_
   refine W.seq_k fun _ k62 => ?_
   refine W.regionD FAes.mixed [(0, true), (1, true), (2, true), (3, true), (4, true), (5, true), (6, true), (7, true), (8, true), (9, true), (10, true), (11, true), (12, true), (13, true), (14, true), (15, true), (16, true), (17, true), (18, true), (19, true), (20, true), (21, true), (22, true), (23, true), (24, true), (25, true), (26, true)] (by kernel_rfl) ?_
   have h63 := h57.drew
   refine Plan.move_ptr rfl rfl <| Plan.move_int rfl rfl <| Plan.nilCheck rfl rfl <| Plan.idxArr1 (j := i_53) FAes.arr27 rfl rfl rfl (by omega) <| Plan.load1 (j := i_53) h63 4 rfl rfl rfl (by omega) FAes.sc5 <| Plan.move_ptr rfl rfl <| Plan.move_int rfl rfl <| Plan.addN (a := i_53) (b := 1) rfl rfl rfl (by omega) ?_
   refine Plan.nilCheck rfl rfl ?_
   obtain ⟨hc64, hR⟩ := hR
   refine Plan.idxArr1 (j := (i_53 + 1)) FAes.arr27 rfl rfl rfl hc64 <| Plan.load1 (j := (i_53 + 1)) h63 4 rfl rfl rfl (by omega) FAes.sc5 <| Plan.move_ptr rfl rfl <| Plan.move_int rfl rfl <| Plan.addN (a := i_53) (b := 2) rfl rfl rfl (by omega) <| Plan.nilCheck rfl rfl ?_
   obtain ⟨hc65, hR⟩ := hR
   refine Plan.idxArr1 (j := (i_53 + 2)) FAes.arr27 rfl rfl rfl hc65 <| Plan.load1 (j := (i_53 + 2)) h63 4 rfl rfl rfl (by omega) FAes.sc5 <| Plan.move_ptr rfl rfl <| Plan.move_int rfl rfl <| Plan.addN (a := i_53) (b := 3) rfl rfl rfl (by omega) <| Plan.nilCheck rfl rfl ?_
   obtain ⟨hc66, hR⟩ := hR
   refine Plan.idxArr1 (j := (i_53 + 3)) FAes.arr27 rfl rfl rfl hc66 <| Plan.load1 (j := (i_53 + 3)) h63 4 rfl rfl rfl (by omega) FAes.sc5 <| Plan.assign_int rfl rfl <| Plan.assign_int rfl rfl <| Plan.assign_int rfl rfl <| Plan.assign_int rfl rfl <| Plan.nil (k62 _ _ ?_); clear k62
   refine W.seq_k fun _ k67 => W.regionT [(0, true), (1, true), (2, true), (3, true), (4, true), (5, true), (6, true), (7, true)] (by kernel_rfl) ?_
   refine Plan.move_int rfl rfl <| Plan.move_int rfl rfl <| Plan.xorU .u8 (X := (m54 i_53)) (Y := (m54 (i_53 + 1))) rfl rfl rfl <| Plan.move_int rfl rfl <| Plan.xorU .u8 (X := ((m54 i_53) ^^^ (m54 (i_53 + 1)))) (Y := (m54 (i_53 + 2))) rfl rfl rfl <| Plan.move_int rfl rfl <| Plan.xorU .u8 (X := (((m54 i_53) ^^^ (m54 (i_53 + 1))) ^^^ (m54 (i_53 + 2)))) (Y := (m54 (i_53 + 3))) rfl rfl rfl <| Plan.assign_int rfl rfl ?_
   refine Plan.nil (k67 _ _ ?_); clear k67
   refine W.seq_k fun _ k68 => ?_
   refine W.regionD FAes.mixed [(0, true), (1, true), (2, true), (3, true), (4, true), (5, true), (6, true), (7, true), (8, true), (9, true), (10, true), (11, true), (12, true), (13, true), (14, true), (15, false)] (by kernel_rfl) ?_
   have h69 := h63.drew
   refine Plan.move_ptr rfl rfl <| Plan.move_int rfl rfl <| Plan.move_int rfl rfl <| Plan.move_int rfl rfl <| Plan.xorU .u8 (X := (m54 i_53)) (Y := ((((m54 i_53) ^^^ (m54 (i_53 + 1))) ^^^ (m54 (i_53 + 2))) ^^^ (m54 (i_53 + 3)))) rfl rfl rfl <| Plan.move_ptr rfl rfl <| Plan.move_int rfl rfl <| Plan.move_int rfl rfl ?_
   refine Plan.xorU .u8 (X := (m54 i_53)) (Y := (m54 (i_53 + 1))) rfl rfl rfl <| Plan.nilCheck rfl rfl <| Plan.idxArr1 (j := ((m54 i_53) ^^^ (m54 (i_53 + 1))).toNat) FAes.arr59 rfl rfl rfl ((m54 i_53) ^^^ (m54 (i_53 + 1))).isLt <| Plan.load1 (j := ((m54 i_53) ^^^ (m54 (i_53 + 1))).toNat) h69 3 rfl rfl rfl (by omega) FAes.sc5 <| Plan.xorU .u8 (X := ((m54 i_53) ^^^ ((((m54 i_53) ^^^ (m54 (i_53 + 1))) ^^^ (m54 (i_53 + 2))) ^^^ (m54 (i_53 + 3))))) (Y := (ct5 (((m54 i_53) ^^^ (m54 (i_53 + 1))).toNat))) rfl rfl rfl <| Plan.nilCheck rfl rfl <| Plan.idxArr1 (j := i_53) FAes.arr27 rfl rfl rfl (by omega) ?_
   refine Plan.storeU (j := i_53) (X := (((m54 i_53) ^^^ ((((m54 i_53) ^^^ (m54 (i_53 + 1))) ^^^ (m54 (i_53 + 2))) ^^^ (m54 (i_53 + 3)))) ^^^ (ct5 (((m54 i_53) ^^^ (m54 (i_53 + 1))).toNat)))) h69 4 rfl rfl rfl rfl (by omega) FAes.sz5 rfl fun w70 h70 => ?_
   simp only [zca, zna, zsz, zss] at h70
   refine Plan.nil (k68 _ _ ?_); clear k68
   refine W.seq_k fun _ k71 => ?_
   refine W.regionD FAes.mixed [(0, true), (1, true), (2, true), (3, true), (4, true), (5, true), (6, true), (7, true), (8, true), (9, true), (10, true), (11, true), (12, true), (13, true), (14, true), (15, true), (16, false)] (by kernel_rfl) ?_
   have h72 := h70.drew
   refine Plan.move_ptr rfl rfl <| Plan.move_int rfl rfl <| Plan.addN (a := i_53) (b := 1) rfl rfl rfl (by omega) <| Plan.move_int rfl rfl <| Plan.move_int rfl rfl <| Plan.xorU .u8 (X := (m54 (i_53 + 1))) (Y := ((((m54 i_53) ^^^ (m54 (i_53 + 1))) ^^^ (m54 (i_53 + 2))) ^^^ (m54 (i_53 + 3)))) rfl rfl rfl <| Plan.move_ptr rfl rfl <| Plan.move_int rfl rfl ?_
   refine Plan.move_int rfl rfl <| Plan.xorU .u8 (X := (m54 (i_53 + 1))) (Y := (m54 (i_53 + 2))) rfl rfl rfl <| Plan.nilCheck rfl rfl <| Plan.idxArr1 (j := ((m54 (i_53 + 1)) ^^^ (m54 (i_53 + 2))).toNat) FAes.arr59 rfl rfl rfl ((m54 (i_53 + 1)) ^^^ (m54 (i_53 + 2))).isLt <| Plan.load1 (j := ((m54 (i_53 + 1)) ^^^ (m54 (i_53 + 2))).toNat) h72 3 rfl rfl rfl (by omega) FAes.sc5 <| Plan.xorU .u8 (X := ((m54 (i_53 + 1)) ^^^ ((((m54 i_53) ^^^ (m54 (i_53 + 1))) ^^^ (m54 (i_53 + 2))) ^^^ (m54 (i_53 + 3))))) (Y := (ct5 (((m54 (i_53 + 1)) ^^^ (m54 (i_53 + 2))).toNat))) rfl rfl rfl <| Plan.nilCheck rfl rfl ?_
   obtain ⟨hc73, hR⟩ := hR
   refine Plan.idxArr1 (j := (i_53 + 1)) FAes.arr27 rfl rfl rfl hc73 ?_
   refine Plan.storeU (j := (i_53 + 1)) (X := (((m54 (i_53 + 1)) ^^^ ((((m54 i_53) ^^^ (m54 (i_53 + 1))) ^^^ (m54 (i_53 + 2))) ^^^ (m54 (i_53 + 3)))) ^^^ (ct5 (((m54 (i_53 + 1)) ^^^ (m54 (i_53 + 2))).toNat)))) h72 4 rfl rfl rfl rfl (by omega) FAes.sz5 rfl fun w74 h74 => ?_
   simp only [zca, zna, zsz, zss] at h74
   refine Plan.nil (k71 _ _ ?_); clear k71
   refine W.seq_k fun _ k75 => ?_
   refine W.regionD FAes.mixed [(0, true), (1, true), (2, true), (3, true), (4, true), (5, true), (6, true), (7, true), (8, true), (9, true), (10, true), (11, true), (12, true), (13, true), (14, true), (15, true), (16, false)] (by kernel_rfl) ?_
   have h76 := h74.drew
   refine Plan.move_ptr rfl rfl <| Plan.move_int rfl rfl <| Plan.addN (a := i_53) (b := 2) rfl rfl rfl (by omega) <| Plan.move_int rfl rfl <| Plan.move_int rfl rfl <| Plan.xorU .u8 (X := (m54 (i_53 + 2))) (Y := ((((m54 i_53) ^^^ (m54 (i_53 + 1))) ^^^ (m54 (i_53 + 2))) ^^^ (m54 (i_53 + 3)))) rfl rfl rfl <| Plan.move_ptr rfl rfl <| Plan.move_int rfl rfl ?_
   refine Plan.move_int rfl rfl <| Plan.xorU .u8 (X := (m54 (i_53 + 2))) (Y := (m54 (i_53 + 3))) rfl rfl rfl <| Plan.nilCheck rfl rfl <| Plan.idxArr1 (j := ((m54 (i_53 + 2)) ^^^ (m54 (i_53 + 3))).toNat) FAes.arr59 rfl rfl rfl ((m54 (i_53 + 2)) ^^^ (m54 (i_53 + 3))).isLt <| Plan.load1 (j := ((m54 (i_53 + 2)) ^^^ (m54 (i_53 + 3))).toNat) h76 3 rfl rfl rfl (by omega) FAes.sc5 <| Plan.xorU .u8 (X := ((m54 (i_53 + 2)) ^^^ ((((m54 i_53) ^^^ (m54 (i_53 + 1))) ^^^ (m54 (i_53 + 2))) ^^^ (m54 (i_53 + 3))))) (Y := (ct5 (((m54 (i_53 + 2)) ^^^ (m54 (i_53 + 3))).toNat))) rfl rfl rfl <| Plan.nilCheck rfl rfl ?_
   obtain ⟨hc77, hR⟩ := hR
   refine Plan.idxArr1 (j := (i_53 + 2)) FAes.arr27 rfl rfl rfl hc77 ?_
   refine Plan.storeU (j := (i_53 + 2)) (X := (((m54 (i_53 + 2)) ^^^ ((((m54 i_53) ^^^ (m54 (i_53 + 1))) ^^^ (m54 (i_53 + 2))) ^^^ (m54 (i_53 + 3)))) ^^^ (ct5 (((m54 (i_53 + 2)) ^^^ (m54 (i_53 + 3))).toNat)))) h76 4 rfl rfl rfl rfl (by omega) FAes.sz5 rfl fun w78 h78 => ?_
   simp only [zca, zna, zsz, zss] at h78
   refine Plan.nil (k75 _ _ ?_); clear k75
   refine W.regionD FAes.mixed [(0, true), (1, true), (2, true), (3, true), (4, true), (5, true), (6, true), (7, true), (8, true), (9, true), (10, true), (11, true), (12, true), (13, true), (14, true), (15, true), (16, false)] (by kernel_rfl) ?_
   have h79 := h78.drew
   refine Plan.move_ptr rfl rfl <| Plan.move_int rfl rfl <| Plan.addN (a := i_53) (b := 3) rfl rfl rfl (by omega) <| Plan.move_int rfl rfl <| Plan.move_int rfl rfl <| Plan.xorU .u8 (X := (m54 (i_53 + 3))) (Y := ((((m54 i_53) ^^^ (m54 (i_53 + 1))) ^^^ (m54 (i_53 + 2))) ^^^ (m54 (i_53 + 3)))) rfl rfl rfl <| Plan.move_ptr rfl rfl <| Plan.move_int rfl rfl ?_
   refine Plan.move_int rfl rfl <| Plan.xorU .u8 (X := (m54 (i_53 + 3))) (Y := (m54 i_53)) rfl rfl rfl <| Plan.nilCheck rfl rfl <| Plan.idxArr1 (j := ((m54 (i_53 + 3)) ^^^ (m54 i_53)).toNat) FAes.arr59 rfl rfl rfl ((m54 (i_53 + 3)) ^^^ (m54 i_53)).isLt <| Plan.load1 (j := ((m54 (i_53 + 3)) ^^^ (m54 i_53)).toNat) h79 3 rfl rfl rfl (by omega) FAes.sc5 <| Plan.xorU .u8 (X := ((m54 (i_53 + 3)) ^^^ ((((m54 i_53) ^^^ (m54 (i_53 + 1))) ^^^ (m54 (i_53 + 2))) ^^^ (m54 (i_53 + 3))))) (Y := (ct5 (((m54 (i_53 + 3)) ^^^ (m54 i_53)).toNat))) rfl rfl rfl <| Plan.nilCheck rfl rfl ?_
   obtain ⟨hc80, hR⟩ := hR
   refine Plan.idxArr1 (j := (i_53 + 3)) FAes.arr27 rfl rfl rfl hc80 ?_
   refine Plan.storeU (j := (i_53 + 3)) (X := (((m54 (i_53 + 3)) ^^^ ((((m54 i_53) ^^^ (m54 (i_53 + 1))) ^^^ (m54 (i_53 + 2))) ^^^ (m54 (i_53 + 3)))) ^^^ (ct5 (((m54 (i_53 + 3)) ^^^ (m54 i_53)).toNat)))) h79 4 rfl rfl rfl rfl (by omega) FAes.sz5 rfl fun w81 h81 => ?_
   simp only [zca, zna, zsz, zss] at h81
   refine Plan.nil ?_
   refine blockR_norm ?_
   refine k61 _ _ ?_; clear k61
   refine W.regionT [(0, true), (1, true), (2, true)] (by kernel_rfl) ?_
   refine Plan.move_int rfl rfl <| Plan.addN (a := i_53) (b := 4) rfl rfl rfl (by omega) <| Plan.assign_int rfl rfl <| Plan.nil ?_
   exact iterR_norm ⟨_, hR, (zer (zer (zer zen))), h81⟩
  ·
   replace hR := ifF hR hc60
   refine W.condF (congrArg Value.bool (decide_eq_false hc60)) ?_
   refine W.exit (thenR_exit (iterR_exit (blockR_here ?_)))
   exact ⟨m54, (hx56 _ hR).symm, zen, h57⟩
 ·
  rintro ev82 wl82 ⟨y_m55, hy82, he82, h82⟩
  obtain ⟨ev82, rfl⟩ := he82.open
  subst hy82
  replace hR := hR056
  refine finR_norm ?_
  subst r
  refine RetOk.mk .nil ?_
  exact ⟨rfl, h82⟩
theorem aes_Cipher_Encrypt_ok {B : Nat} {w0 w : World} {L : List Rg} {bc1 : Nat} {ckeys2 : Nat → BitVec 8} {ct3 : Nat → BitVec 8} {ct4 : Nat → BitVec 8} {ct5 : Nat → BitVec 8} {block6 : Nat → BitVec 8} {r : (Nat → BitVec 8)} (hR : aes_Cipher_Encrypt ckeys2 ct3 ct4 ct5 block6 r) (HST : St B w0 (⟨some bc1, 0, 240, fun q => VU .u8 (ckeys2 q), true⟩ :: ⟨some bc1, 240, 256, fun q => VU .u8 (ct3 q), true⟩ :: ⟨some bc1, 496, 256, fun q => VU .u8 (ct4 q), true⟩ :: ⟨some bc1, 752, 256, fun q => VU .u8 (ct5 q), true⟩ :: L) w) :
  Calls Try.prog 15 #[.pointer (some ⟨bc1, 0, none⟩), AG [(16, fun q => VU .u8 (block6 q))]] w fun e w' => e = .returned (AG [(16, fun q => VU .u8 (r q))]) ∧ St B w0 (⟨some bc1, 0, 240, fun q => VU .u8 (ckeys2 q), true⟩ :: ⟨some bc1, 240, 256, fun q => VU .u8 (ct3 q), true⟩ :: ⟨some bc1, 496, 256, fun q => VU .u8 (ct4 q), true⟩ :: ⟨some bc1, 752, 256, fun q => VU .u8 (ct5 q), true⟩ :: L) w' := by
 refine W.enter 45 Try.func15 rfl rfl rfl ?_
 unfold aes_Cipher_Encrypt at hR
 refine W.seq_k fun _ k7 => W.regionT [(0, false), (1, false)] (by kernel_rfl) ?_
 refine Plan.boxA HST rfl rfl PIn.nil fun b8 w8 hb8 h8 => ?_
 simp only [rngs, Nat.zero_add, Nat.reduceAdd, zca, zna] at h8
 refine Plan.alloc h8 rfl FAes.z27 PIn.nil fun b9 w9 hb9 h9 => ?_
 simp only [rngs, Nat.zero_add, Nat.reduceAdd, zca, zna] at h9
 refine Plan.nil (k7 _ _ ?_); clear k7
 refine W.seq_k fun _ k10 => W.regionT [(0, true), (1, false), (2, false)] (by kernel_rfl) ?_
 refine Plan.loadA1 h9 1 rfl rfl rfl FAes.agg27 ?_
 refine Plan.alloc h9 rfl FAes.z27 (PIn.cons 1 rfl PIn.nil) fun b11 w11 hb11 h11 => ?_
 simp only [rngs, Nat.zero_add, Nat.reduceAdd, zca, zna] at h11
 refine Plan.storeA (f' := fun q => VU .u8 (block6 q)) h11 0 rfl rfl rfl rfl (fun _ _ => rfl) FAes.sz27 rfl fun w12 h12 => ?_
 simp only [zca, zna, zsz, zss] at h12
 refine Plan.nil (k10 _ _ ?_); clear k10
 refine W.seq_k fun _ k13 => W.regionT [(0, true), (1, false)] (by kernel_rfl) ?_
 refine Plan.move_ptr rfl rfl ?_
 have h14 := St.pickT (C := [_, _, _, _, _, _, _]) h12 [3, 4, 5, 6, 0, 1, 2] (by decide)
 simp only [pick, zfc, zfn, zgz, zgs, zca, zna] at h14
 obtain ⟨x_16, hr15, hR⟩ := hR
 refine Plan.call (vs := [.pointer (some ⟨bc1, 0, none⟩), .pointer (some ⟨b11, 0, none⟩), VN 0]) rfl FAes.call24 rfl (aes_Cipher_add_ok  hr15 h14) ?_
 rintro _ w17 ⟨rfl, h17⟩
 refine ⟨_, rfl, .inl ⟨PIn.keep PIn.nil h17, ?_⟩⟩
 refine Plan.nil (k13 _ _ ?_); clear k13
 refine W.seq_k fun _ k18 => W.seq_k fun _ k19 => ?_
 refine W.regionT [(0, true)] (by kernel_rfl) ?_
 refine Plan.assign_int rfl rfl <| Plan.nil (k19 _ _ ?_); clear k19
 obtain ⟨m135, hI136, hR0136⟩ := hR
 refine W.cutN (fun e w => ∃ y_m135 : Nat → BitVec 8, m135 = y_m135 ∧ EnvHas e [(4, .pointer (some ⟨b9, 0, none⟩)), (5, .pointer (some ⟨b11, 0, none⟩))] ∧ St B w0 (⟨some bc1, 0, 240, fun q => VU .u8 (ckeys2 q), true⟩ :: ⟨some bc1, 240, 256, fun q => VU .u8 (ct3 q), true⟩ :: ⟨some bc1, 496, 256, fun q => VU .u8 (ct4 q), true⟩ :: ⟨some bc1, 752, 256, fun q => VU .u8 (ct5 q), true⟩ :: ⟨some b11, 0, 16, fun q => VU .u8 (y_m135 q), true⟩ :: ⟨some b9, 0, 16, fun q => VU .u8 ((fun _ => 0#8) q), true⟩ :: L) w) ?_ ?_
 ·
  refine W.block ?_
  have h137 := St.pickT (C := [_, _, _, _, _, _, _]) h17 [0, 1, 2, 3, 4, 5] (by decide)
  simp only [pick, zfc, zfn, zgz, zgs, zca, zna] at h137
  refine W.iter hI136 (fun (s136 : (Nat × (Nat → BitVec 8))) e w => EnvHas e [(0, .pointer (some ⟨bc1, 0, none⟩)), (4, .pointer (some ⟨b9, 0, none⟩)), (5, .pointer (some ⟨b11, 0, none⟩)), (6, VN s136.1)] ∧ St B w0 (⟨some bc1, 0, 240, fun q => VU .u8 (ckeys2 q), true⟩ :: ⟨some bc1, 240, 256, fun q => VU .u8 (ct3 q), true⟩ :: ⟨some bc1, 496, 256, fun q => VU .u8 (ct4 q), true⟩ :: ⟨some bc1, 752, 256, fun q => VU .u8 (ct5 q), true⟩ :: ⟨some b11, 0, 16, fun q => VU .u8 (s136.2 q), true⟩ :: ⟨some b9, 0, 16, fun q => VU .u8 ((fun _ => 0#8) q), true⟩ :: L) w) ⟨(zer (zer (zer (zer zen)))), h137⟩ ?_
  rintro ⟨round133, m134⟩ o136 hR hx136 ev138 wl138 ⟨he138, h138⟩
  obtain ⟨ev138, rfl⟩ := he138.open
  unfold aes_Cipher_Encrypt_l0 at hR
  refine W.seq_k fun _ k139 => W.seq_k fun _ k140 => ?_
  refine W.regionT [(0, true), (1, true)] (by kernel_rfl) ?_
  refine Plan.move_int rfl rfl <| Plan.cmpP (a := (((round133 : Nat) : Int) : Int)) (b := (14 : Int)) (p := round133 ≤ 14) rfl rfl rfl rfl icmp_leN <| Plan.nil (k140 _ _ ?_); clear k140
  by_cases hc141 : round133 ≤ 14
  ·
   replace hR := ifT hR hc141
   refine W.condT (congrArg Value.bool (decide_eq_true hc141)) ?_
   refine W.skip ?_
   refine k139 _ _ ?_; clear k139
   refine W.seq_k fun _ k142 => ?_
   refine W.block ?_
   refine W.seq_k fun _ k143 => W.regionT [(0, false)] (by kernel_rfl) ?_
   refine Plan.alloc h138 rfl FAes.z27 PIn.nil fun b144 w144 hb144 h144 => ?_
   simp only [rngs, Nat.zero_add, Nat.reduceAdd, zca, zna] at h144
   refine Plan.nil (k143 _ _ ?_); clear k143
   refine W.seq_k fun _ k145 => W.seq_k fun _ k146 => ?_
   refine W.regionT [(0, true)] (by kernel_rfl) ?_
   refine Plan.move_int rfl rfl <| Plan.nil (k146 _ _ ?_); clear k146
   obtain ⟨m164, hI165, hR0165⟩ := hR
   refine W.cutN (fun e w => ∃ y_m164 : Nat → BitVec 8, m164 = y_m164 ∧ EnvHas e [(0, .pointer (some ⟨bc1, 0, none⟩)), (4, .pointer (some ⟨b9, 0, none⟩)), (5, .pointer (some ⟨b11, 0, none⟩)), (6, VN round133), (7, .pointer (some ⟨b144, 0, none⟩))] ∧ St B w0 (⟨some b144, 0, 16, fun q => VU .u8 (y_m164 q), true⟩ :: ⟨some bc1, 0, 240, fun q => VU .u8 (ckeys2 q), true⟩ :: ⟨some bc1, 240, 256, fun q => VU .u8 (ct3 q), true⟩ :: ⟨some bc1, 496, 256, fun q => VU .u8 (ct4 q), true⟩ :: ⟨some bc1, 752, 256, fun q => VU .u8 (ct5 q), true⟩ :: ⟨some b11, 0, 16, fun q => VU .u8 (m134 q), true⟩ :: ⟨some b9, 0, 16, fun q => VU .u8 ((fun _ => 0#8) q), true⟩ :: L) w) ?_ ?_
   ·
    refine W.block ?_
    refine W.iter hI165 (fun (s165 : (Nat × (Nat → BitVec 8))) e w => EnvHas e [(0, .pointer (some ⟨bc1, 0, none⟩)), (4, .pointer (some ⟨b9, 0, none⟩)), (5, .pointer (some ⟨b11, 0, none⟩)), (6, VN round133), (7, .pointer (some ⟨b144, 0, none⟩)), (16, VN s165.1)] ∧ St B w0 (⟨some b144, 0, 16, fun q => VU .u8 (s165.2 q), true⟩ :: ⟨some bc1, 0, 240, fun q => VU .u8 (ckeys2 q), true⟩ :: ⟨some bc1, 240, 256, fun q => VU .u8 (ct3 q), true⟩ :: ⟨some bc1, 496, 256, fun q => VU .u8 (ct4 q), true⟩ :: ⟨some bc1, 752, 256, fun q => VU .u8 (ct5 q), true⟩ :: ⟨some b11, 0, 16, fun q => VU .u8 (m134 q), true⟩ :: ⟨some b9, 0, 16, fun q => VU .u8 ((fun _ => 0#8) q), true⟩ :: L) w) ⟨(zer (zer (zer (zer (zer (zer zen)))))), h144⟩ ?_
    rintro ⟨t162, m163⟩ o165 hR hx165 ev166 wl166 ⟨he166, h166⟩
    obtain ⟨ev166, rfl⟩ := he166.open
    unfold aes_Cipher_Encrypt_l1 at hR
    refine W.seq_k fun _ k167 => W.regionT [(0, true)] (by kernel_rfl) ?_
    refine Plan.cmpP (a := (((t162 : Nat) : Int) : Int)) (b := (16 : Int)) (p := t162 < 16) rfl rfl rfl rfl icmp_ltN <| Plan.nil (k167 _ _ ?_); clear k167
    refine W.seq_k fun _ k168 => ?_
    by_cases hc169 : t162 < 16
    ·
     replace hR := ifT hR hc169
     refine W.condT (congrArg Value.bool (decide_eq_true hc169)) ?_
     refine W.skip ?_
     refine k168 _ _ ?_; clear k168
     refine W.seq_k fun _ k170 => ?_
     refine W.block ?_
     refine W.seq_k fun _ k171 => W.regionT [(0, true), (1, true)] (by kernel_rfl) ?_
     refine Plan.move_int rfl rfl <| Plan.assign_int rfl rfl <| Plan.nil (k171 _ _ ?_); clear k171
     refine W.regionD FAes.mixed [(0, true), (1, true), (2, true), (3, true), (4, true), (5, true), (6, true), (7, true), (8, true), (9, true), (10, true), (11, true), (12, true), (13, true), (14, true), (15, true), (16, false)] (by kernel_rfl) ?_
     have h172 := h166.drew
     refine Plan.move_int rfl rfl <| Plan.move_ptr rfl rfl <| Plan.move_int rfl rfl <| Plan.move_int rfl rfl <| Plan.remN (a := t162) (b := 4) rfl rfl rfl (by omega) <| Plan.mulN (a := 4) (b := (t162 % 4)) rfl rfl rfl (by omega) <| Plan.addN (a := t162) (b := (4 * (t162 % 4))) rfl rfl rfl (by omega) <| Plan.remN (a := (t162 + (4 * (t162 % 4)))) (b := 16) rfl rfl rfl (by omega) ?_
     refine Plan.idxArr1 (j := ((t162 + (4 * (t162 % 4))) % 16)) FAes.arr27 rfl rfl rfl (by omega) <| Plan.load1 (j := ((t162 + (4 * (t162 % 4))) % 16)) h172 5 rfl rfl rfl (by omega) FAes.sc5 <| Plan.nilCheck rfl rfl <| Plan.fieldAddr 240 FAes.fld67_1 rfl rfl <| Plan.fieldAddr0 FAes.fld61_0 rfl rfl <| Plan.idxArr1 (j := (m134 ((t162 + (4 * (t162 % 4))) % 16)).toNat) FAes.arr59 rfl rfl rfl (m134 ((t162 + (4 * (t162 % 4))) % 16)).isLt <| Plan.load1 (j := (m134 ((t162 + (4 * (t162 % 4))) % 16)).toNat) h172 2 rfl rfl rfl (by omega) FAes.sc5 <| Plan.idxArr1 (j := t162) FAes.arr27 rfl rfl rfl (by omega) ?_
     refine Plan.storeU (j := t162) (X := (ct3 ((m134 ((t162 + (4 * (t162 % 4))) % 16)).toNat))) h172 0 rfl rfl rfl rfl (by omega) FAes.sz5 rfl fun w173 h173 => ?_
     simp only [zca, zna, zsz, zss] at h173
     refine Plan.nil ?_
     refine blockR_norm ?_
     refine k170 _ _ ?_; clear k170
     refine W.regionT [(0, true), (1, true)] (by kernel_rfl) ?_
     refine Plan.addN (a := t162) (b := 1) rfl rfl rfl (by omega) <| Plan.move_int rfl rfl <| Plan.nil ?_
     exact iterR_norm ⟨_, hR, (zer (zer (zer (zer (zer (zer zen)))))), h173⟩
    ·
     replace hR := ifF hR hc169
     refine W.condF (congrArg Value.bool (decide_eq_false hc169)) ?_
     refine W.exit (thenR_exit (iterR_exit (blockR_here ?_)))
     exact ⟨m163, (hx165 _ hR).symm, (zer (zer (zer (zer (zer zen))))), h166⟩
   ·
    rintro ev174 wl174 ⟨y_m164, hy174, he174, h174⟩
    obtain ⟨ev174, rfl⟩ := he174.open
    subst hy174
    replace hR := hR0165
    refine k145 _ _ ?_; clear k145
    refine W.seq_k fun _ k175 => ?_
    obtain ⟨m182, hX183, hR0183⟩ := hR
    refine W.cutN (fun e w => ∃ y_m182 : Nat → BitVec 8, (m182 = y_m182) ∧ EnvHas e [(0, .pointer (some ⟨bc1, 0, none⟩)), (4, .pointer (some ⟨b9, 0, none⟩)), (5, .pointer (some ⟨b11, 0, none⟩)), (6, VN round133), (7, .pointer (some ⟨b144, 0, none⟩))] ∧ St B w0 (⟨some bc1, 0, 240, fun q => VU .u8 (ckeys2 q), true⟩ :: ⟨some bc1, 240, 256, fun q => VU .u8 (ct3 q), true⟩ :: ⟨some bc1, 496, 256, fun q => VU .u8 (ct4 q), true⟩ :: ⟨some bc1, 752, 256, fun q => VU .u8 (ct5 q), true⟩ :: ⟨some b144, 0, 16, fun q => VU .u8 (y_m182 q), true⟩ :: ⟨some b11, 0, 16, fun q => VU .u8 (m134 q), true⟩ :: ⟨some b9, 0, 16, fun q => VU .u8 ((fun _ => 0#8) q), true⟩ :: L) w) ?_ ?_
    ·
     replace hR := hX183
     refine W.seq_k fun _ k184 => W.regionT [(0, true), (1, true)] (by kernel_rfl) ?_
     refine Plan.move_int rfl rfl <| Plan.cmpP (a := (((round133 : Nat) : Int) : Int)) (b := (14 : Int)) (p := round133 < 14) rfl rfl rfl rfl icmp_ltN <| Plan.nil (k184 _ _ ?_); clear k184
     by_cases hc185 : round133 < 14
     ·
      replace hR := ifT hR hc185
      refine W.condT (congrArg Value.bool (decide_eq_true hc185)) ?_
      refine W.regionT [(0, true), (1, false)] (by kernel_rfl) ?_
      refine Plan.move_ptr rfl rfl ?_
      have h186 := St.pickT (C := [_, _, _, _, _, _, _]) h174 [1, 2, 3, 4, 0, 5, 6] (by decide)
      simp only [pick, zfc, zfn, zgz, zgs, zca, zna] at h186
      obtain ⟨x_188, hr187, hR⟩ := hR
      refine Plan.call (vs := [.pointer (some ⟨bc1, 0, none⟩), .pointer (some ⟨b144, 0, none⟩)]) rfl FAes.call25 rfl (aes_Cipher_mix_ok  hr187 h186) ?_
      rintro _ w189 ⟨rfl, h189⟩
      refine ⟨_, rfl, .inl ⟨PIn.keep PIn.nil h189, ?_⟩⟩
      refine Plan.nil ?_
      exact ⟨x_188, hR, (zer (zer (zer (zer (zer zen))))), h189⟩
     ·
      replace hR := ifF hR hc185
      refine W.condF (congrArg Value.bool (decide_eq_false hc185)) ?_
      refine W.skip ?_
      have h190 := St.pickT (C := [_, _, _, _, _, _, _]) h174 [1, 2, 3, 4, 0, 5, 6] (by decide)
      simp only [pick, zfc, zfn, zgz, zgs, zca, zna] at h190
      exact ⟨m164, hR, (zer (zer (zer (zer (zer zen))))), h190⟩
    ·
     rintro ev191 wl191 ⟨y_m182, hy191_0, he191, h191⟩
     subst hy191_0
     obtain ⟨ev191, rfl⟩ := he191.open
     replace hR := hR0183
     refine k175 _ _ ?_; clear k175
     refine W.seq_k fun _ k192 => W.regionT [(0, true), (1, false)] (by kernel_rfl) ?_
     refine Plan.loadA1 h191 4 rfl rfl rfl FAes.agg27 ?_
     refine Plan.storeA (f' := fun q => VU .u8 (m182 q)) h191 5 rfl rfl rfl rfl (fun _ _ => rfl) FAes.sz27 rfl fun w193 h193 => ?_
     simp only [zca, zna, zsz, zss] at h193
     refine Plan.nil (k192 _ _ ?_); clear k192
     refine W.regionT [(0, true), (1, true), (2, false)] (by kernel_rfl) ?_
     refine Plan.move_ptr rfl rfl <| Plan.move_int rfl rfl ?_
     have h194 := St.pickT (C := [_, _, _, _, _, _, _]) h193 [0, 1, 2, 3, 5, 4, 6] (by decide)
     simp only [pick, zfc, zfn, zgz, zgs, zca, zna] at h194
     obtain ⟨x_196, hr195, hR⟩ := hR
     refine Plan.call (vs := [.pointer (some ⟨bc1, 0, none⟩), .pointer (some ⟨b11, 0, none⟩), VN round133]) rfl FAes.call24 rfl (aes_Cipher_add_ok  hr195 h194) ?_
     rintro _ w197 ⟨rfl, h197⟩
     refine ⟨_, rfl, .inl ⟨PIn.keep PIn.nil h197, ?_⟩⟩
     refine Plan.nil ?_
     refine blockR_norm ?_
     refine k142 _ _ ?_; clear k142
     refine W.regionT [(0, true), (1, true), (2, true)] (by kernel_rfl) ?_
     refine Plan.move_int rfl rfl <| Plan.addN (a := round133) (b := 1) rfl rfl rfl (by omega) <| Plan.assign_int rfl rfl <| Plan.nil ?_
     have h198 := St.pickT (C := [_, _, _, _, _, _, _]) h197 [0, 1, 2, 3, 4, 6] (by decide)
     simp only [pick, zfc, zfn, zgz, zgs, zca, zna] at h198
     exact iterR_norm ⟨_, hR, (zer (zer (zer (zer zen)))), h198⟩
  ·
   replace hR := ifF hR hc141
   refine W.condF (congrArg Value.bool (decide_eq_false hc141)) ?_
   refine W.exit (thenR_exit (iterR_exit (blockR_here ?_)))
   exact ⟨m134, (hx136 _ hR).symm, (zer (zer zen)), h138⟩
 ·
  rintro ev199 wl199 ⟨y_m135, hy199, he199, h199⟩
  obtain ⟨ev199, rfl⟩ := he199.open
  subst hy199
  replace hR := hR0136
  refine k18 _ _ ?_; clear k18
  refine W.seq_k fun _ k200 => W.regionT [(0, true), (1, false)] (by kernel_rfl) ?_
  refine Plan.loadA1 h199 4 rfl rfl rfl FAes.agg27 ?_
  refine Plan.storeA (f' := fun q => VU .u8 (m135 q)) h199 5 rfl rfl rfl rfl (fun _ _ => rfl) FAes.sz27 rfl fun w201 h201 => ?_
  simp only [zca, zna, zsz, zss] at h201
  refine Plan.nil (k200 _ _ ?_); clear k200
  refine W.ret (finR_ret ?_)
  have h202 := St.pickT (C := [_, _, _, _, _, _]) h201 [0, 1, 2, 3] (by decide)
  simp only [pick, zfc, zfn, zgz, zgs, zca, zna] at h202
  subst r
  refine RetOk.mk (.agg h201 rfl (.cons 5 rfl .nil) FAes.agg27 .nil) ?_
  exact ⟨rfl, h202⟩
theorem aes_Cipher_Decrypt_ok {B : Nat} {w0 w : World} {L : List Rg} {bc1 : Nat} {ckeys2 : Nat → BitVec 8} {ct3 : Nat → BitVec 8} {ct4 : Nat → BitVec 8} {ct5 : Nat → BitVec 8} {block6 : Nat → BitVec 8} {r : (Nat → BitVec 8)} (hR : aes_Cipher_Decrypt ckeys2 ct3 ct4 ct5 block6 r) (HST : St B w0 (⟨some bc1, 0, 240, fun q => VU .u8 (ckeys2 q), true⟩ :: ⟨some bc1, 240, 256, fun q => VU .u8 (ct3 q), true⟩ :: ⟨some bc1, 496, 256, fun q => VU .u8 (ct4 q), true⟩ :: ⟨some bc1, 752, 256, fun q => VU .u8 (ct5 q), true⟩ :: L) w) :
  Calls Try.prog 17 #[.pointer (some ⟨bc1, 0, none⟩), AG [(16, fun q => VU .u8 (block6 q))]] w fun e w' => e = .returned (AG [(16, fun q => VU .u8 (r q))]) ∧ St B w0 (⟨some bc1, 0, 240, fun q => VU .u8 (ckeys2 q), true⟩ :: ⟨some bc1, 240, 256, fun q => VU .u8 (ct3 q), true⟩ :: ⟨some bc1, 496, 256, fun q => VU .u8 (ct4 q), true⟩ :: ⟨some bc1, 752, 256, fun q => VU .u8 (ct5 q), true⟩ :: L) w' := by
 refine W.enter 49 Try.func17 rfl rfl rfl ?_
 unfold aes_Cipher_Decrypt at hR
 refine W.seq_k fun _ k7 => W.regionT [(0, false), (1, false)] (by kernel_rfl) ?_
 refine Plan.boxA HST rfl rfl PIn.nil fun b8 w8 hb8 h8 => ?_
 simp only [rngs, Nat.zero_add, Nat.reduceAdd, zca, zna] at h8
 refine Plan.alloc h8 rfl FAes.z27 PIn.nil fun b9 w9 hb9 h9 => ?_
 simp only [rngs, Nat.zero_add, Nat.reduceAdd, zca, zna] at h9
 refine Plan.nil (k7 _ _ ?_); clear k7
 refine W.seq_k fun _ k10 => W.regionT [(0, true), (1, false), (2, false)] (by kernel_rfl) ?_
 refine Plan.loadA1 h9 1 rfl rfl rfl FAes.agg27 ?_
 refine Plan.alloc h9 rfl FAes.z27 (PIn.cons 1 rfl PIn.nil) fun b11 w11 hb11 h11 => ?_
 simp only [rngs, Nat.zero_add, Nat.reduceAdd, zca, zna] at h11
 refine Plan.storeA (f' := fun q => VU .u8 (block6 q)) h11 0 rfl rfl rfl rfl (fun _ _ => rfl) FAes.sz27 rfl fun w12 h12 => ?_
 simp only [zca, zna, zsz, zss] at h12
 refine Plan.nil (k10 _ _ ?_); clear k10
 refine W.seq_k fun _ k13 => W.seq_k fun _ k14 => ?_
 refine W.regionT [(0, true)] (by kernel_rfl) ?_
 refine Plan.assign_int rfl rfl <| Plan.nil (k14 _ _ ?_); clear k14
 obtain ⟨m211, hI212, hR0212⟩ := hR
 refine W.cutN (fun e w => ∃ y_m211 : Nat → BitVec 8, m211 = y_m211 ∧ EnvHas e [(0, .pointer (some ⟨bc1, 0, none⟩)), (4, .pointer (some ⟨b9, 0, none⟩)), (5, .pointer (some ⟨b11, 0, none⟩))] ∧ St B w0 (⟨some b11, 0, 16, fun q => VU .u8 (y_m211 q), true⟩ :: ⟨some b9, 0, 16, fun q => VU .u8 ((fun _ => 0#8) q), true⟩ :: ⟨some bc1, 0, 240, fun q => VU .u8 (ckeys2 q), true⟩ :: ⟨some bc1, 240, 256, fun q => VU .u8 (ct3 q), true⟩ :: ⟨some bc1, 496, 256, fun q => VU .u8 (ct4 q), true⟩ :: ⟨some bc1, 752, 256, fun q => VU .u8 (ct5 q), true⟩ :: L) w) ?_ ?_
 ·
  refine W.block ?_
  have h213 := St.pickT (C := [_, _, _, _, _, _, _]) h12 [0, 1, 3, 4, 5, 6] (by decide)
  simp only [pick, zfc, zfn, zgz, zgs, zca, zna] at h213
  refine W.iter hI212 (fun (s212 : (Int × (Nat → BitVec 8))) e w => EnvHas e [(0, .pointer (some ⟨bc1, 0, none⟩)), (4, .pointer (some ⟨b9, 0, none⟩)), (5, .pointer (some ⟨b11, 0, none⟩)), (6, .int .i64 s212.1)] ∧ St B w0 (⟨some b11, 0, 16, fun q => VU .u8 (s212.2 q), true⟩ :: ⟨some b9, 0, 16, fun q => VU .u8 ((fun _ => 0#8) q), true⟩ :: ⟨some bc1, 0, 240, fun q => VU .u8 (ckeys2 q), true⟩ :: ⟨some bc1, 240, 256, fun q => VU .u8 (ct3 q), true⟩ :: ⟨some bc1, 496, 256, fun q => VU .u8 (ct4 q), true⟩ :: ⟨some bc1, 752, 256, fun q => VU .u8 (ct5 q), true⟩ :: L) w) ⟨(zer (zer (zer (zer zen)))), h213⟩ ?_
  rintro ⟨round209, m210⟩ o212 hR hx212 ev214 wl214 ⟨he214, h214⟩
  obtain ⟨ev214, rfl⟩ := he214.open
  unfold aes_Cipher_Decrypt_l0 at hR
  refine W.seq_k fun _ k215 => W.seq_k fun _ k216 => ?_
  refine W.regionT [(0, true), (1, true)] (by kernel_rfl) ?_
  refine Plan.move_int rfl rfl <| Plan.cmpP (a := (round209 : Int)) (b := (1 : Int)) (p := 1 ≤ round209) rfl rfl rfl rfl icmp_ge <| Plan.nil (k216 _ _ ?_); clear k216
  by_cases hc217 : 1 ≤ round209
  ·
   replace hR := ifT hR hc217
   refine W.condT (congrArg Value.bool (decide_eq_true hc217)) ?_
   refine W.skip ?_
   refine k215 _ _ ?_; clear k215
   refine W.seq_k fun _ k218 => ?_
   refine W.block ?_
   refine W.seq_k fun _ k219 => W.regionT [(0, true), (1, true), (2, false)] (by kernel_rfl) ?_
   refine Plan.move_ptr rfl rfl <| Plan.move_int rfl rfl ?_
   have h220 := St.pickT (C := [_, _, _, _, _, _]) h214 [2, 3, 4, 5, 0, 1] (by decide)
   simp only [pick, zfc, zfn, zgz, zgs, zca, zna] at h220
   obtain ⟨x_222, hr221, hR⟩ := hR
   refine Plan.call (vs := [.pointer (some ⟨bc1, 0, none⟩), .pointer (some ⟨b11, 0, none⟩), .int .i64 round209]) rfl FAes.call24 rfl (aes_Cipher_add_ok  hr221 h220) ?_
   rintro _ w223 ⟨rfl, h223⟩
   refine ⟨_, rfl, .inl ⟨PIn.keep PIn.nil h223, ?_⟩⟩
   refine Plan.nil (k219 _ _ ?_); clear k219
   refine W.seq_k fun _ k224 => ?_
   obtain ⟨m238, hX239, hR0239⟩ := hR
   refine W.cutN (fun e w => ∃ y_m238 : Nat → BitVec 8, (m238 = y_m238) ∧ EnvHas e [(0, .pointer (some ⟨bc1, 0, none⟩)), (4, .pointer (some ⟨b9, 0, none⟩)), (5, .pointer (some ⟨b11, 0, none⟩)), (6, .int .i64 round209)] ∧ St B w0 (⟨some bc1, 0, 240, fun q => VU .u8 (ckeys2 q), true⟩ :: ⟨some bc1, 240, 256, fun q => VU .u8 (ct3 q), true⟩ :: ⟨some bc1, 496, 256, fun q => VU .u8 (ct4 q), true⟩ :: ⟨some bc1, 752, 256, fun q => VU .u8 (ct5 q), true⟩ :: ⟨some b11, 0, 16, fun q => VU .u8 (y_m238 q), true⟩ :: ⟨some b9, 0, 16, fun q => VU .u8 ((fun _ => 0#8) q), true⟩ :: L) w) ?_ ?_
   ·
    replace hR := hX239
    refine W.seq_k fun _ k240 => W.regionT [(0, true), (1, true)] (by kernel_rfl) ?_
    refine Plan.move_int rfl rfl <| Plan.cmpP (a := (round209 : Int)) (b := (14 : Int)) (p := round209 < 14) rfl rfl rfl rfl icmp_lt <| Plan.nil (k240 _ _ ?_); clear k240
    by_cases hc241 : round209 < 14
    ·
     replace hR := ifT hR hc241
     refine W.condT (congrArg Value.bool (decide_eq_true hc241)) ?_
     refine W.seq_k fun _ k242 => W.regionT [(0, true), (1, false)] (by kernel_rfl) ?_
     refine Plan.move_ptr rfl rfl ?_
     obtain ⟨x_244, hr243, hR⟩ := hR
     refine Plan.call (vs := [.pointer (some ⟨bc1, 0, none⟩), .pointer (some ⟨b11, 0, none⟩)]) rfl FAes.call25 rfl (aes_Cipher_mix_ok  hr243 h223) ?_
     rintro _ w245 ⟨rfl, h245⟩
     refine ⟨_, rfl, .inl ⟨PIn.keep PIn.nil h245, ?_⟩⟩
     refine Plan.nil (k242 _ _ ?_); clear k242
     refine W.seq_k fun _ k246 => W.regionT [(0, true), (1, false)] (by kernel_rfl) ?_
     refine Plan.move_ptr rfl rfl ?_
     obtain ⟨x_248, hr247, hR⟩ := hR
     refine Plan.call (vs := [.pointer (some ⟨bc1, 0, none⟩), .pointer (some ⟨b11, 0, none⟩)]) rfl FAes.call25 rfl (aes_Cipher_mix_ok  hr247 h245) ?_
     rintro _ w249 ⟨rfl, h249⟩
     refine ⟨_, rfl, .inl ⟨PIn.keep PIn.nil h249, ?_⟩⟩
     refine Plan.nil (k246 _ _ ?_); clear k246
     refine W.regionT [(0, true), (1, false)] (by kernel_rfl) ?_
     refine Plan.move_ptr rfl rfl ?_
     obtain ⟨x_251, hr250, hR⟩ := hR
     refine Plan.call (vs := [.pointer (some ⟨bc1, 0, none⟩), .pointer (some ⟨b11, 0, none⟩)]) rfl FAes.call25 rfl (aes_Cipher_mix_ok  hr250 h249) ?_
     rintro _ w252 ⟨rfl, h252⟩
     refine ⟨_, rfl, .inl ⟨PIn.keep PIn.nil h252, ?_⟩⟩
     refine Plan.nil ?_
     exact ⟨x_251, hR, (zer (zer (zer (zer zen)))), h252⟩
    ·
     replace hR := ifF hR hc241
     refine W.condF (congrArg Value.bool (decide_eq_false hc241)) ?_
     refine W.skip ?_
     exact ⟨x_222, hR, (zer (zer (zer (zer zen)))), h223⟩
   ·
    rintro ev253 wl253 ⟨y_m238, hy253_0, he253, h253⟩
    subst hy253_0
    obtain ⟨ev253, rfl⟩ := he253.open
    replace hR := hR0239
    refine k224 _ _ ?_; clear k224
    refine W.seq_k fun _ k254 => W.regionT [(0, false)] (by kernel_rfl) ?_
    refine Plan.alloc h253 rfl FAes.z27 PIn.nil fun b255 w255 hb255 h255 => ?_
    simp only [rngs, Nat.zero_add, Nat.reduceAdd, zca, zna] at h255
    refine Plan.nil (k254 _ _ ?_); clear k254
    refine W.seq_k fun _ k256 => W.seq_k fun _ k257 => ?_
    refine W.regionT [(0, true)] (by kernel_rfl) ?_
    refine Plan.move_int rfl rfl <| Plan.nil (k257 _ _ ?_); clear k257
    obtain ⟨m275, hI276, hR0276⟩ := hR
    refine W.cutN (fun e w => ∃ y_m275 : Nat → BitVec 8, m275 = y_m275 ∧ EnvHas e [(0, .pointer (some ⟨bc1, 0, none⟩)), (4, .pointer (some ⟨b9, 0, none⟩)), (5, .pointer (some ⟨b11, 0, none⟩)), (6, .int .i64 round209), (7, .pointer (some ⟨b255, 0, none⟩))] ∧ St B w0 (⟨some b255, 0, 16, fun q => VU .u8 (y_m275 q), true⟩ :: ⟨some bc1, 0, 240, fun q => VU .u8 (ckeys2 q), true⟩ :: ⟨some bc1, 240, 256, fun q => VU .u8 (ct3 q), true⟩ :: ⟨some bc1, 496, 256, fun q => VU .u8 (ct4 q), true⟩ :: ⟨some bc1, 752, 256, fun q => VU .u8 (ct5 q), true⟩ :: ⟨some b11, 0, 16, fun q => VU .u8 (m238 q), true⟩ :: ⟨some b9, 0, 16, fun q => VU .u8 ((fun _ => 0#8) q), true⟩ :: L) w) ?_ ?_
    ·
     refine W.block ?_
     refine W.iter hI276 (fun (s276 : (Nat × (Nat → BitVec 8))) e w => EnvHas e [(0, .pointer (some ⟨bc1, 0, none⟩)), (4, .pointer (some ⟨b9, 0, none⟩)), (5, .pointer (some ⟨b11, 0, none⟩)), (6, .int .i64 round209), (7, .pointer (some ⟨b255, 0, none⟩)), (25, VN s276.1)] ∧ St B w0 (⟨some b255, 0, 16, fun q => VU .u8 (s276.2 q), true⟩ :: ⟨some bc1, 0, 240, fun q => VU .u8 (ckeys2 q), true⟩ :: ⟨some bc1, 240, 256, fun q => VU .u8 (ct3 q), true⟩ :: ⟨some bc1, 496, 256, fun q => VU .u8 (ct4 q), true⟩ :: ⟨some bc1, 752, 256, fun q => VU .u8 (ct5 q), true⟩ :: ⟨some b11, 0, 16, fun q => VU .u8 (m238 q), true⟩ :: ⟨some b9, 0, 16, fun q => VU .u8 ((fun _ => 0#8) q), true⟩ :: L) w) ⟨(zer (zer (zer (zer (zer (zer zen)))))), h255⟩ ?_
     rintro ⟨t273, m274⟩ o276 hR hx276 ev277 wl277 ⟨he277, h277⟩
     obtain ⟨ev277, rfl⟩ := he277.open
     unfold aes_Cipher_Decrypt_l1 at hR
     refine W.seq_k fun _ k278 => W.regionT [(0, true)] (by kernel_rfl) ?_
     refine Plan.cmpP (a := (((t273 : Nat) : Int) : Int)) (b := (16 : Int)) (p := t273 < 16) rfl rfl rfl rfl icmp_ltN <| Plan.nil (k278 _ _ ?_); clear k278
     refine W.seq_k fun _ k279 => ?_
     by_cases hc280 : t273 < 16
     ·
      replace hR := ifT hR hc280
      refine W.condT (congrArg Value.bool (decide_eq_true hc280)) ?_
      refine W.skip ?_
      refine k279 _ _ ?_; clear k279
      refine W.seq_k fun _ k281 => ?_
      refine W.block ?_
      refine W.seq_k fun _ k282 => W.regionT [(0, true), (1, true)] (by kernel_rfl) ?_
      refine Plan.move_int rfl rfl <| Plan.assign_int rfl rfl <| Plan.nil (k282 _ _ ?_); clear k282
      refine W.regionD FAes.mixed [(0, true), (1, true), (2, true), (3, true), (4, true), (5, true), (6, true), (7, true), (8, true), (9, true), (10, true), (11, true), (12, true), (13, true), (14, true), (15, true), (16, false)] (by kernel_rfl) ?_
      have h283 := h277.drew
      refine Plan.move_int rfl rfl <| Plan.move_int rfl rfl <| Plan.remN (a := t273) (b := 4) rfl rfl rfl (by omega) <| Plan.mulN (a := 4) (b := (t273 % 4)) rfl rfl rfl (by omega) <| Plan.addN (a := t273) (b := (4 * (t273 % 4))) rfl rfl rfl (by omega) <| Plan.remN (a := (t273 + (4 * (t273 % 4)))) (b := 16) rfl rfl rfl (by omega) <| Plan.move_ptr rfl rfl <| Plan.move_int rfl rfl ?_
      refine Plan.idxArr1 (j := t273) FAes.arr27 rfl rfl rfl (by omega) <| Plan.load1 (j := t273) h283 5 rfl rfl rfl (by omega) FAes.sc5 <| Plan.nilCheck rfl rfl <| Plan.fieldAddr 240 FAes.fld67_1 rfl rfl <| Plan.fieldAddr 256 FAes.fld61_1 rfl rfl <| Plan.idxArr1 (j := (m238 t273).toNat) FAes.arr59 rfl rfl rfl (m238 t273).isLt <| Plan.load1 (j := (m238 t273).toNat) h283 3 rfl rfl rfl (by first | omega | exact (m238 t273).isLt) FAes.sc5 <| Plan.idxArr1 (j := ((t273 + (4 * (t273 % 4))) % 16)) FAes.arr27 rfl rfl rfl (by omega) ?_
      refine Plan.storeU (j := ((t273 + (4 * (t273 % 4))) % 16)) (X := (ct4 ((m238 t273).toNat))) h283 0 rfl rfl rfl rfl (by omega) FAes.sz5 rfl fun w284 h284 => ?_
      simp only [zca, zna, zsz, zss] at h284
      refine Plan.nil ?_
      refine blockR_norm ?_
      refine k281 _ _ ?_; clear k281
      refine W.regionT [(0, true), (1, true)] (by kernel_rfl) ?_
      refine Plan.addN (a := t273) (b := 1) rfl rfl rfl (by omega) <| Plan.move_int rfl rfl <| Plan.nil ?_
      exact iterR_norm ⟨_, hR, (zer (zer (zer (zer (zer (zer zen)))))), h284⟩
     ·
      replace hR := ifF hR hc280
      refine W.condF (congrArg Value.bool (decide_eq_false hc280)) ?_
      refine W.exit (thenR_exit (iterR_exit (blockR_here ?_)))
      exact ⟨m274, (hx276 _ hR).symm, (zer (zer (zer (zer (zer zen))))), h277⟩
    ·
     rintro ev285 wl285 ⟨y_m275, hy285, he285, h285⟩
     obtain ⟨ev285, rfl⟩ := he285.open
     subst hy285
     replace hR := hR0276
     refine k256 _ _ ?_; clear k256
     refine W.regionT [(0, true), (1, false)] (by kernel_rfl) ?_
     refine Plan.loadA1 h285 0 rfl rfl rfl FAes.agg27 ?_
     refine Plan.storeA (f' := fun q => VU .u8 (m275 q)) h285 5 rfl rfl rfl rfl (fun _ _ => rfl) FAes.sz27 rfl fun w286 h286 => ?_
     simp only [zca, zna, zsz, zss] at h286
     refine Plan.nil ?_
     refine blockR_norm ?_
     refine k218 _ _ ?_; clear k218
     refine W.regionT [(0, true), (1, true), (2, true)] (by kernel_rfl) ?_
     refine Plan.move_int rfl rfl ?_
     obtain ⟨hc287, hR⟩ := hR
     refine Plan.subI (a := round209) (b := 1) rfl rfl rfl (by omega) <| Plan.assign_int rfl rfl <| Plan.nil ?_
     have h288 := St.pickT (C := [_, _, _, _, _, _, _]) h286 [5, 6, 1, 2, 3, 4] (by decide)
     simp only [pick, zfc, zfn, zgz, zgs, zca, zna] at h288
     exact iterR_norm ⟨_, hR, (zer (zer (zer (zer zen)))), h288⟩
  ·
   replace hR := ifF hR hc217
   refine W.condF (congrArg Value.bool (decide_eq_false hc217)) ?_
   refine W.exit (thenR_exit (iterR_exit (blockR_here ?_)))
   exact ⟨m210, (hx212 _ hR).symm, (zer (zer (zer zen))), h214⟩
 ·
  rintro ev289 wl289 ⟨y_m211, hy289, he289, h289⟩
  obtain ⟨ev289, rfl⟩ := he289.open
  subst hy289
  replace hR := hR0212
  refine k13 _ _ ?_; clear k13
  refine W.seq_k fun _ k290 => W.regionT [(0, true), (1, false)] (by kernel_rfl) ?_
  refine Plan.move_ptr rfl rfl ?_
  have h291 := St.pickT (C := [_, _, _, _, _, _]) h289 [2, 3, 4, 5, 0, 1] (by decide)
  simp only [pick, zfc, zfn, zgz, zgs, zca, zna] at h291
  obtain ⟨x_293, hr292, hR⟩ := hR
  refine Plan.call (vs := [.pointer (some ⟨bc1, 0, none⟩), .pointer (some ⟨b11, 0, none⟩), VN 0]) rfl FAes.call24 rfl (aes_Cipher_add_ok  hr292 h291) ?_
  rintro _ w294 ⟨rfl, h294⟩
  refine ⟨_, rfl, .inl ⟨PIn.keep PIn.nil h294, ?_⟩⟩
  refine Plan.nil (k290 _ _ ?_); clear k290
  refine W.seq_k fun _ k295 => W.regionT [(0, true), (1, false)] (by kernel_rfl) ?_
  refine Plan.loadA1 h294 4 rfl rfl rfl FAes.agg27 ?_
  refine Plan.storeA (f' := fun q => VU .u8 (x_293 q)) h294 5 rfl rfl rfl rfl (fun _ _ => rfl) FAes.sz27 rfl fun w296 h296 => ?_
  simp only [zca, zna, zsz, zss] at h296
  refine Plan.nil (k295 _ _ ?_); clear k295
  refine W.ret (finR_ret ?_)
  have h297 := St.pickT (C := [_, _, _, _, _, _]) h296 [0, 1, 2, 3] (by decide)
  simp only [pick, zfc, zfn, zgz, zgs, zca, zna] at h297
  subst r
  refine RetOk.mk (.agg h296 rfl (.cons 5 rfl .nil) FAes.agg27 .nil) ?_
  exact ⟨rfl, h297⟩
theorem aes_Cipher_Stream_ok {B : Nat} {w0 w : World} {L : List Rg} {bc1 : Nat} {ckeys2 : Nat → BitVec 8} {ct3 : Nat → BitVec 8} {ct4 : Nat → BitVec 8} {ct5 : Nat → BitVec 8} {first6 : Nat → BitVec 8} {text7 : List Byte} {atext7 : Option Addr} {ntext7 ctext7 itext7 : Nat} (htext7 : Bx L itext7 atext7 ntext7 ctext7 text7) {r : (List Byte)} (hR : aes_Cipher_Stream ckeys2 ct3 ct4 ct5 first6 text7 r) (HST : St B w0 (⟨some bc1, 0, 240, fun q => VU .u8 (ckeys2 q), true⟩ :: ⟨some bc1, 240, 256, fun q => VU .u8 (ct3 q), true⟩ :: ⟨some bc1, 496, 256, fun q => VU .u8 (ct4 q), true⟩ :: ⟨some bc1, 752, 256, fun q => VU .u8 (ct5 q), true⟩ :: L) w) :
  Calls Try.prog 13 #[.pointer (some ⟨bc1, 0, none⟩), AG [(16, fun q => VU .u8 (first6 q))], .slice atext7 ntext7 ctext7] w fun e w' => ∃ ay0 : Option Addr, ∃ py0 : Option Nat, ∃ ny0 : Nat, ∃ cy0 : Nat, ∃ Fy0 : Nat → Byte, e = .returned (.slice ay0 ny0 cy0) ∧ St B w0 (⟨py0, 0, cy0, fun q => VU .u8 (Fy0 q), true⟩ :: ⟨some bc1, 0, 240, fun q => VU .u8 (ckeys2 q), true⟩ :: ⟨some bc1, 240, 256, fun q => VU .u8 (ct3 q), true⟩ :: ⟨some bc1, 496, 256, fun q => VU .u8 (ct4 q), true⟩ :: ⟨some bc1, 752, 256, fun q => VU .u8 (ct5 q), true⟩ :: L) w' ∧ Ow ay0 py0 ny0 cy0 Fy0 r := by
 refine W.enter 45 Try.func13 rfl rfl rfl ?_
 unfold aes_Cipher_Stream at hR
 have etext7 := htext7.hl; subst etext7
 refine W.seq_k fun _ k8 => W.regionT [(0, false), (1, true)] (by kernel_rfl) ?_
 refine Plan.boxA HST rfl rfl PIn.nil fun b9 w9 hb9 h9 => ?_
 simp only [rngs, Nat.zero_add, Nat.reduceAdd, zca, zna] at h9
 refine Plan.assign_slice rfl rfl <| Plan.nil (k8 _ _ ?_); clear k8
 refine W.seq_k fun _ k10 => W.regionT [(0, true), (1, false), (2, true)] (by kernel_rfl) ?_
 refine Plan.move_slice rfl rfl ?_
 have h11 := h9.nilR
 obtain ⟨hc13, hR⟩ := hR
 refine Plan.appendO (X := ([] : List Byte)) (Y := text7) h11 0 Ow.nil FAes.el28 FAes.sl28 rfl rfl rfl rfl (htext7.app [_, _, _, _, _, _]) hc13 (fun _ => EffO.keep PIn.nil) fun a12 pb12 cap12 F12 w12 ho12 h12 => ?_
 simp only [zca, zna, zsz, zss] at h12
 refine Plan.assign_slice rfl rfl <| Plan.nil (k10 _ _ ?_); clear k10
 refine W.seq_k fun _ k14 => W.seq_k fun _ k15 => ?_
 refine W.regionT [(0, true)] (by kernel_rfl) ?_
 refine Plan.assign_int rfl rfl <| Plan.nil (k15 _ _ ?_); clear k15
 obtain ⟨out145, hI146, hR0146⟩ := hR
 refine W.cutN (fun e w => ∃ y_out145 : List Byte, out145 = y_out145 ∧ ∃ aout145 : Option Addr, ∃ pout145 : Option Nat, ∃ cout145 : Nat, ∃ Fout145 : Nat → Byte, EnvHas e [(7, .slice aout145 ((([] : List Byte) ++ text7).length) cout145)] ∧ St B w0 (⟨pout145, 0, cout145, fun q => VU .u8 (Fout145 q), true⟩ :: ⟨some bc1, 0, 240, fun q => VU .u8 (ckeys2 q), true⟩ :: ⟨some bc1, 240, 256, fun q => VU .u8 (ct3 q), true⟩ :: ⟨some bc1, 496, 256, fun q => VU .u8 (ct4 q), true⟩ :: ⟨some bc1, 752, 256, fun q => VU .u8 (ct5 q), true⟩ :: L) w ∧ Ow aout145 pout145 ((([] : List Byte) ++ text7).length) cout145 Fout145 y_out145) ?_ ?_
 ·
  refine W.block ?_
  refine W.iter hI146 (fun (s146 : ((List Byte) × Nat × (Nat → BitVec 8))) e w => ∃ aout142 : Option Addr, ∃ pout142 : Option Nat, ∃ cout142 : Nat, ∃ Fout142 : Nat → Byte, EnvHas e [(0, .pointer (some ⟨bc1, 0, none⟩)), (4, .pointer (some ⟨b9, 0, none⟩)), (7, .slice aout142 ((([] : List Byte) ++ text7).length) cout142), (8, VN s146.2.1)] ∧ St B w0 (⟨pout142, 0, cout142, fun q => VU .u8 (Fout142 q), true⟩ :: ⟨some b9, 0, 16, fun q => VU .u8 (s146.2.2 q), true⟩ :: ⟨some bc1, 0, 240, fun q => VU .u8 (ckeys2 q), true⟩ :: ⟨some bc1, 240, 256, fun q => VU .u8 (ct3 q), true⟩ :: ⟨some bc1, 496, 256, fun q => VU .u8 (ct4 q), true⟩ :: ⟨some bc1, 752, 256, fun q => VU .u8 (ct5 q), true⟩ :: L) w ∧ Ow aout142 pout142 ((([] : List Byte) ++ text7).length) cout142 Fout142 s146.1) ⟨a12, pb12, cap12, F12, (zer (zer (zer (zer zen)))), h12, ho12⟩ ?_
  rintro ⟨out142, at_143, m144⟩ o146 hR hx146 ev147 wl147 ⟨aout142, pout142, cout142, Fout142, he147, h147, hout142⟩
  obtain ⟨ev147, rfl⟩ := he147.open
  unfold aes_Cipher_Stream_l0 at hR
  refine W.seq_k fun _ k148 => W.seq_k fun _ k149 => ?_
  refine W.regionT [(0, true), (1, true), (2, true), (3, true)] (by kernel_rfl) ?_
  refine Plan.move_int rfl rfl <| Plan.move_slice rfl rfl <| Plan.len FAes.isl28 rfl rfl <| Plan.cmpP (a := (((at_143 : Nat) : Int) : Int)) (b := ((((([] : List Byte) ++ text7).length : Nat) : Int) : Int)) (p := at_143 < (([] : List Byte) ++ text7).length) rfl rfl rfl rfl icmp_ltN <| Plan.nil (k149 _ _ ?_); clear k149
  by_cases hc150 : at_143 < (([] : List Byte) ++ text7).length
  ·
   replace hR := ifT hR hc150
   refine W.condT (congrArg Value.bool (decide_eq_true hc150)) ?_
   refine W.skip ?_
   refine k148 _ _ ?_; clear k148
   refine W.seq_k fun _ k151 => ?_
   refine W.block ?_
   refine W.seq_k fun _ k152 => W.regionT [(0, true), (1, true), (2, false), (3, false), (4, false)] (by kernel_rfl) ?_
   refine Plan.move_ptr rfl rfl <| Plan.loadA1 h147 1 rfl rfl rfl FAes.agg27 ?_
   have h153 := St.pickT (C := [_, _, _, _, _, _]) h147 [2, 3, 4, 5, 0, 1] (by decide)
   simp only [pick, zfc, zfn, zgz, zgs, zca, zna] at h153
   obtain ⟨x_155, hr154, hR⟩ := hR
   refine Plan.call (vs := [.pointer (some ⟨bc1, 0, none⟩), AG [(16, fun q => VU .u8 (m144 q))]]) rfl FAes.call15 rfl (aes_Cipher_Encrypt_ok  hr154 h153) ?_
   rintro _ w156 ⟨rfl, h156⟩
   refine ⟨_, rfl, .inr ⟨rfl, ?_⟩⟩
   refine Plan.alloc h156 rfl FAes.z27 PIn.nil fun b157 w157 hb157 h157 => ?_
   simp only [rngs, Nat.zero_add, Nat.reduceAdd, zca, zna] at h157
   refine Plan.storeA (f' := fun q => VU .u8 (x_155 q)) h157 0 rfl rfl rfl rfl (fun _ _ => rfl) FAes.sz27 rfl fun w158 h158 => ?_
   simp only [zca, zna, zsz, zss] at h158
   refine Plan.nil (k152 _ _ ?_); clear k152
   refine W.seq_k fun _ k159 => W.seq_k fun _ k160 => ?_
   refine W.regionT [(0, true), (1, true), (2, true), (3, true), (4, true), (5, true)] (by kernel_rfl) ?_
   refine Plan.move_slice rfl rfl <| Plan.len FAes.isl28 rfl rfl <| Plan.move_int rfl rfl ?_
   obtain ⟨hc161, hR⟩ := hR
   refine Plan.subI (a := (((([] : List Byte) ++ text7).length : Nat) : Int)) (b := ((at_143 : Nat) : Int)) rfl rfl rfl (by omega) <| Plan.minI (a := 16) (b := ((((([] : List Byte) ++ text7).length : Nat) : Int) - ((at_143 : Nat) : Int))) rfl rfl rfl <| Plan.move_int rfl rfl <| Plan.nil (k160 _ _ ?_); clear k160
   obtain ⟨out189, hI190, hR0190⟩ := hR
   refine W.cutN (fun e w => ∃ y_out189 : List Byte, out189 = y_out189 ∧ ∃ aout189 : Option Addr, ∃ pout189 : Option Nat, ∃ cout189 : Nat, ∃ Fout189 : Nat → Byte, EnvHas e [(0, .pointer (some ⟨bc1, 0, none⟩)), (4, .pointer (some ⟨b9, 0, none⟩)), (7, .slice aout189 ((([] : List Byte) ++ text7).length) cout189), (8, VN at_143)] ∧ St B w0 (⟨pout189, 0, cout189, fun q => VU .u8 (Fout189 q), true⟩ :: ⟨some bc1, 0, 240, fun q => VU .u8 (ckeys2 q), true⟩ :: ⟨some bc1, 240, 256, fun q => VU .u8 (ct3 q), true⟩ :: ⟨some bc1, 496, 256, fun q => VU .u8 (ct4 q), true⟩ :: ⟨some bc1, 752, 256, fun q => VU .u8 (ct5 q), true⟩ :: ⟨some b9, 0, 16, fun q => VU .u8 (m144 q), true⟩ :: L) w ∧ Ow aout189 pout189 ((([] : List Byte) ++ text7).length) cout189 Fout189 y_out189) ?_ ?_
   ·
    refine W.block ?_
    have h191 := St.pickT (C := [_, _, _, _, _, _, _]) h158 [5, 0, 1, 2, 3, 4, 6] (by decide)
    simp only [pick, zfc, zfn, zgz, zgs, zca, zna] at h191
    refine W.iter hI190 (fun (s190 : ((List Byte) × Nat)) e w => ∃ aout187 : Option Addr, ∃ pout187 : Option Nat, ∃ cout187 : Nat, ∃ Fout187 : Nat → Byte, EnvHas e [(0, .pointer (some ⟨bc1, 0, none⟩)), (4, .pointer (some ⟨b9, 0, none⟩)), (7, .slice aout187 ((([] : List Byte) ++ text7).length) cout187), (8, VN at_143), (9, .pointer (some ⟨b157, 0, none⟩)), (26, .int .i64 (min 16 ((((([] : List Byte) ++ text7).length : Nat) : Int) - ((at_143 : Nat) : Int)))), (27, VN s190.2)] ∧ St B w0 (⟨pout187, 0, cout187, fun q => VU .u8 (Fout187 q), true⟩ :: ⟨some b157, 0, 16, fun q => VU .u8 (x_155 q), true⟩ :: ⟨some bc1, 0, 240, fun q => VU .u8 (ckeys2 q), true⟩ :: ⟨some bc1, 240, 256, fun q => VU .u8 (ct3 q), true⟩ :: ⟨some bc1, 496, 256, fun q => VU .u8 (ct4 q), true⟩ :: ⟨some bc1, 752, 256, fun q => VU .u8 (ct5 q), true⟩ :: ⟨some b9, 0, 16, fun q => VU .u8 (m144 q), true⟩ :: L) w ∧ Ow aout187 pout187 ((([] : List Byte) ++ text7).length) cout187 Fout187 s190.1) ⟨aout142, pout142, cout142, Fout142, (zer (zer (zer (zer (zer (zer (zer zen))))))), h191, hout142⟩ ?_
    rintro ⟨out187, t188⟩ o190 hR hx190 ev192 wl192 ⟨aout187, pout187, cout187, Fout187, he192, h192, hout187⟩
    obtain ⟨ev192, rfl⟩ := he192.open
    unfold aes_Cipher_Stream_l1 at hR
    refine W.seq_k fun _ k193 => W.regionT [(0, true)] (by kernel_rfl) ?_
    refine Plan.cmpP (a := (((t188 : Nat) : Int) : Int)) (b := ((min 16 ((((([] : List Byte) ++ text7).length : Nat) : Int) - ((at_143 : Nat) : Int))) : Int)) (p := ((t188 : Nat) : Int) < (min 16 ((((([] : List Byte) ++ text7).length : Nat) : Int) - ((at_143 : Nat) : Int)))) rfl rfl rfl rfl icmp_lt <| Plan.nil (k193 _ _ ?_); clear k193
    refine W.seq_k fun _ k194 => ?_
    by_cases hc195 : ((t188 : Nat) : Int) < (min 16 ((((([] : List Byte) ++ text7).length : Nat) : Int) - ((at_143 : Nat) : Int)))
    ·
     replace hR := ifT hR hc195
     refine W.condT (congrArg Value.bool (decide_eq_true hc195)) ?_
     refine W.skip ?_
     refine k194 _ _ ?_; clear k194
     refine W.seq_k fun _ k196 => ?_
     refine W.block ?_
     refine W.seq_k fun _ k197 => W.regionT [(0, true), (1, true)] (by kernel_rfl) ?_
     refine Plan.move_int rfl rfl <| Plan.assign_int rfl rfl <| Plan.nil (k197 _ _ ?_); clear k197
     refine W.regionD FAes.mixed [(0, true), (1, true), (2, true), (3, true), (4, true), (5, true), (6, true), (7, true), (8, true), (9, true), (10, true), (11, false)] (by kernel_rfl) ?_
     have h198 := h192.drew
     refine Plan.move_slice rfl rfl <| Plan.move_int rfl rfl <| Plan.move_int rfl rfl ?_
     obtain ⟨hc199, hR⟩ := hR
     refine Plan.addN (a := at_143) (b := t188) rfl rfl rfl (by omega) ?_
     obtain ⟨hc200, hR⟩ := hR
     refine Plan.idxVS (j := (at_143 + t188)) h198 (hout187.bx 0 rfl) FAes.sl28 rfl rfl rfl hc200 ?_
     refine Plan.loadV (j := (at_143 + t188)) h198 (hout187.bx 0 rfl) rfl rfl hc200 FAes.sc5 fun r201 hr201 => ?_
     refine Plan.move_int rfl rfl <| Plan.idxArr1 (j := t188) FAes.arr27 rfl rfl rfl (by omega) <| Plan.load1 (j := t188) h198 1 rfl rfl rfl (by omega) FAes.sc5 <| Plan.xorU .u8 (X := (lit out187 (at_143 + t188))) (Y := (x_155 t188)) rfl rfl rfl ?_
     obtain ⟨hc202, hR⟩ := hR
     refine Plan.idxVS (j := (at_143 + t188)) h198 (hout187.bx 0 rfl) FAes.sl28 rfl rfl rfl hc202 ?_
     refine Plan.storeO (j := (at_143 + t188)) (Y := ((lit out187 (at_143 + t188)) ^^^ (x_155 t188))) h198 0 hout187 rfl rfl rfl rfl hc202 FAes.sz5 rfl fun w203 F203 ho203 h203 => ?_
     simp only [zca, zna, zsz, zss] at h203
     have e203 : (out187.set (at_143 + t188) ((lit out187 (at_143 + t188)) ^^^ (x_155 t188))).length = out187.length := List.length_set
     refine Plan.nil ?_
     refine blockR_norm ?_
     refine k196 _ _ ?_; clear k196
     refine W.regionT [(0, true), (1, true)] (by kernel_rfl) ?_
     refine Plan.addN (a := t188) (b := 1) rfl rfl rfl (by omega) <| Plan.move_int rfl rfl <| Plan.nil ?_
     exact iterR_norm ⟨_, hR, aout187, pout187, cout187, F203, (zer (zer (zer (zer (zer (zer (zer zen))))))), h203, (show Ow _ _ ((([] : List Byte) ++ text7).length) _ _ _ from ho203)⟩
    ·
     replace hR := ifF hR hc195
     refine W.condF (congrArg Value.bool (decide_eq_false hc195)) ?_
     refine W.exit (thenR_exit (iterR_exit (blockR_here ?_)))
     have h204 := St.pickT (C := [_, _, _, _, _, _, _]) h192 [0, 2, 3, 4, 5, 6] (by decide)
     simp only [pick, zfc, zfn, zgz, zgs, zca, zna] at h204
     exact ⟨out187, (hx190 _ hR).symm, aout187, pout187, cout187, Fout187, (zer (zer (zer (zer zen)))), h204, hout187⟩
   ·
    rintro ev205 wl205 ⟨y_out189, hy205, aout189, pout189, cout189, Fout189, he205, h205, hout189⟩
    obtain ⟨ev205, rfl⟩ := he205.open
    subst hy205
    replace hR := hR0190
    refine k159 _ _ ?_; clear k159
    refine W.regionT [(0, true), (1, false), (2, false)] (by kernel_rfl) ?_
    refine Plan.loadA1 h205 5 rfl rfl rfl FAes.agg27 ?_
    obtain ⟨x_207, hr206, hR⟩ := hR
    refine Plan.call (vs := [AG [(16, fun q => VU .u8 (m144 q))], VU .u64 (1#64)]) rfl FAes.call16 rfl (aes_Next_ok  hr206 h205) ?_
    rintro _ w208 ⟨rfl, h208⟩
    refine ⟨_, rfl, .inr ⟨rfl, ?_⟩⟩
    refine Plan.storeA (f' := fun q => VU .u8 (x_207 q)) h208 5 rfl rfl rfl rfl (fun _ _ => rfl) FAes.sz27 rfl fun w209 h209 => ?_
    simp only [zca, zna, zsz, zss] at h209
    refine Plan.nil ?_
    refine blockR_norm ?_
    refine k151 _ _ ?_; clear k151
    refine W.regionT [(0, true), (1, true), (2, true)] (by kernel_rfl) ?_
    refine Plan.move_int rfl rfl ?_
    obtain ⟨hc210, hR⟩ := hR
    refine Plan.addN (a := at_143) (b := 16) rfl rfl rfl (by omega) <| Plan.assign_int rfl rfl <| Plan.nil ?_
    have h211 := St.pickT (C := [_, _, _, _, _, _]) h209 [0, 5, 1, 2, 3, 4] (by decide)
    simp only [pick, zfc, zfn, zgz, zgs, zca, zna] at h211
    exact iterR_norm ⟨_, hR, aout189, pout189, cout189, Fout189, (zer (zer (zer (zer zen)))), h211, hout189⟩
  ·
   replace hR := ifF hR hc150
   refine W.condF (congrArg Value.bool (decide_eq_false hc150)) ?_
   refine W.exit (thenR_exit (iterR_exit (blockR_here ?_)))
   have h212 := St.pickT (C := [_, _, _, _, _, _]) h147 [0, 2, 3, 4, 5] (by decide)
   simp only [pick, zfc, zfn, zgz, zgs, zca, zna] at h212
   exact ⟨out142, (hx146 _ hR).symm, aout142, pout142, cout142, Fout142, (zer zen), h212, hout142⟩
 ·
  rintro ev213 wl213 ⟨y_out145, hy213, aout145, pout145, cout145, Fout145, he213, h213, hout145⟩
  obtain ⟨ev213, rfl⟩ := he213.open
  subst hy213
  replace hR := hR0146
  refine k14 _ _ ?_; clear k14
  refine W.seq_k fun _ k214 => W.regionT [(0, true), (1, true)] (by kernel_rfl) ?_
  refine Plan.move_slice rfl rfl <| Plan.assign_slice rfl rfl <| Plan.nil (k214 _ _ ?_); clear k214
  refine W.ret (finR_ret ?_)
  subst r
  refine RetOk.mk (.tmp_slice rfl .nil) ?_
  exact ⟨aout145, pout145, (([] : List Byte) ++ text7).length, cout145, Fout145, rfl, h213, hout145⟩
theorem aes_Cipher_Wipe_ok {B : Nat} {w0 w : World} {L : List Rg} {bc1 : Nat} {ckeys2 : Nat → BitVec 8} {ct3 : Nat → BitVec 8} {ct4 : Nat → BitVec 8} {ct5 : Nat → BitVec 8} {r : (Nat → BitVec 8)} (hR : aes_Cipher_Wipe ckeys2 ct3 ct4 ct5 r) (HST : St B w0 (⟨some bc1, 0, 240, fun q => VU .u8 (ckeys2 q), true⟩ :: ⟨some bc1, 240, 256, fun q => VU .u8 (ct3 q), true⟩ :: ⟨some bc1, 496, 256, fun q => VU .u8 (ct4 q), true⟩ :: ⟨some bc1, 752, 256, fun q => VU .u8 (ct5 q), true⟩ :: L) w) :
  Calls Try.prog 20 #[.pointer (some ⟨bc1, 0, none⟩)] w fun e w' => e = .returned (.tuple #[]) ∧ St B w0 (⟨some bc1, 0, 240, fun q => VU .u8 (r q), true⟩ :: ⟨some bc1, 240, 256, fun q => VU .u8 (ct3 q), true⟩ :: ⟨some bc1, 496, 256, fun q => VU .u8 (ct4 q), true⟩ :: ⟨some bc1, 752, 256, fun q => VU .u8 (ct5 q), true⟩ :: L) w' := by
 refine W.enter 5 Try.func20 rfl rfl rfl ?_
 unfold aes_Cipher_Wipe at hR
 refine W.regionT [(0, true), (1, false), (2, false)] (by kernel_rfl) ?_
 refine Plan.move_ptr rfl rfl ?_
 refine Plan.makeO (len := 32) (c := 32) HST FAes.el28 rfl rfl rfl (by omega) (by omega) (fun _ => EffO.keep PIn.nil) fun b6 w6 hb6 ho6 h6 => ?_
 have h7 := St.pickT (C := [_, _, _, _, _]) h6 [1, 2, 3, 4, 0] (by decide)
 simp only [pick, zfc, zfn, zgz, zgs, zca, zna] at h7
 obtain ⟨x_9, hr8, hR⟩ := hR
 refine Plan.call (vs := [.pointer (some ⟨bc1, 0, none⟩), .slice (some ⟨b6, 0, none⟩) ((List.replicate 32 0#8).length) 32]) rfl FAes.call26 rfl (aes_Cipher_expand_ok (by exact (ho6.bx 0 rfl)) hr8 h7) ?_
 rintro _ w10 ⟨rfl, h10⟩
 refine ⟨_, rfl, .inl ⟨PIn.keep PIn.nil h10, ?_⟩⟩
 refine Plan.nil ?_
 refine finR_norm ?_
 have h11 := St.pickT (C := [_, _, _, _, _]) h10 [0, 1, 2, 3] (by decide)
 simp only [pick, zfc, zfn, zgz, zgs, zca, zna] at h11
 subst r
 refine RetOk.mk .nil ?_
 exact ⟨rfl, h11⟩
end Go.Proofs.Ythjkmhdgenmnoaa
