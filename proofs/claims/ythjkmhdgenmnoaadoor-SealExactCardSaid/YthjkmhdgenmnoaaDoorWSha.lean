/-
 WALKS of the package's functions, printed by this session's own program (auto.py).
-/
import Derived.Test.YthjkmhdgenmnoaaDoorProg
import Derived.Test.YthjkmhdgenmnoaaDoorEc
import Derived.Test.YthjkmhdgenmnoaaDoorRSha
import Derived.Test.YthjkmhdgenmnoaaDoorEls
import Derived.Test.YthjkmhdgenmnoaaDoorWBits
namespace Go.Proofs.YthjkmhdgenmnoaaDoor
set_option linter.unusedSimpArgs false
set_option linter.unusedVariables false
set_option linter.unusedSectionVars false
set_option maxRecDepth 8000
set_option maxHeartbeats 1000000
open Go Go.LW
theorem FSha.mixed : Tryd.prog.follows .mixedOrders = true := by kernel_rfl
theorem FSha.sc24 : scalarT Tryd.prog 24 = true := by kernel_rfl
theorem FSha.sl24 : slB Tryd.prog 24 1 = true := by kernel_rfl
theorem FSha.zv5 : (Tryd.prog.info? 5).bind (·.zero) = some (VU .u8 0#8) := by kernel_rfl
theorem FSha.slu24 : Tryd.prog.underlying 24 = some (.slice 5) := by kernel_rfl
theorem FSha.sz5 : szT Tryd.prog 5 1 = true := by kernel_rfl
theorem FSha.isl24 : ∃ el, Tryd.prog.underlying 24 = some (.slice el) := ⟨5, by kernel_rfl⟩
theorem FSha.sc3 : scalarT Tryd.prog 3 = true := by kernel_rfl
theorem FSha.u5 : Tryd.prog.underlying 5 = some (.int .u8) := by kernel_rfl
theorem FSha.z58 : zeroIs Tryd.prog 58 [(32, fun _ => VU .u8 0#8)] := zeroIs_agg (by kernel_rfl)
theorem FSha.agg94 : aggT Tryd.prog 94 8 = true := by kernel_rfl
theorem FSha.pl97 : placesB Tryd.prog 97 [(0, 8), (8, 64), (72, 1)] = true := by kernel_rfl
theorem FSha.z97 : zeroIs Tryd.prog 97 [(8, fun _ => VU .u32 0#32), (64, fun _ => VU .u8 0#8), (1, fun _ => .int .i64 0)] := zeroIs_agg (by kernel_rfl)
theorem FSha.call39 : callB Tryd.prog 39 = true := by kernel_rfl
theorem FSha.isl40 : ∃ el, Tryd.prog.underlying 40 = some (.slice el) := ⟨24, by kernel_rfl⟩
theorem FSha.sl40 : slB Tryd.prog 40 1 = true := by kernel_rfl
theorem FSha.fld97_1 : fieldB Tryd.prog 97 1 8 = true := by kernel_rfl
theorem FSha.fld97_2 : fieldB Tryd.prog 97 2 72 = true := by kernel_rfl
theorem FSha.arr95 : arrB Tryd.prog 95 64 1 = true := by kernel_rfl
theorem FSha.sz3 : szT Tryd.prog 3 1 = true := by kernel_rfl
theorem FSha.fld97_0 : fieldB Tryd.prog 97 0 0 = true := by kernel_rfl
theorem FSha.agg95 : aggT Tryd.prog 95 64 = true := by kernel_rfl
theorem FSha.z94 : zeroIs Tryd.prog 94 [(8, fun _ => VU .u32 0#32)] := zeroIs_agg (by kernel_rfl)
theorem FSha.z107 : zeroIs Tryd.prog 107 [(64, fun _ => VU .u32 0#32)] := zeroIs_agg (by kernel_rfl)
theorem FSha.sc5 : scalarT Tryd.prog 5 = true := by kernel_rfl
theorem FSha.u93 : Tryd.prog.underlying 93 = some (.int .u32) := by kernel_rfl
theorem FSha.some5 : (Tryd.prog.underlying 5).isSome = true := by kernel_rfl
theorem FSha.arr107 : arrB Tryd.prog 107 64 1 = true := by kernel_rfl
theorem FSha.sz93 : szT Tryd.prog 93 1 = true := by kernel_rfl
theorem FSha.sc93 : scalarT Tryd.prog 93 = true := by kernel_rfl
theorem FSha.some3 : (Tryd.prog.underlying 3).isSome = true := by kernel_rfl
theorem FSha.call67 : callB Tryd.prog 67 = true := by kernel_rfl
theorem FSha.call60 : callB Tryd.prog 60 = true := by kernel_rfl
theorem FSha.arr94 : arrB Tryd.prog 94 8 1 = true := by kernel_rfl
theorem FSha.isarr94 : Tryd.prog.underlying 94 = some (.array 8 93) := by kernel_rfl
theorem FSha.sz94 : szT Tryd.prog 94 8 = true := by kernel_rfl
theorem FSha.call53 : callB Tryd.prog 53 = true := by kernel_rfl
theorem FSha.call40 : callB Tryd.prog 40 = true := by kernel_rfl
theorem FSha.agg97 : aggT Tryd.prog 97 73 = true := by kernel_rfl
theorem FSha.sz97 : szT Tryd.prog 97 73 = true := by kernel_rfl
theorem FSha.call54 : callB Tryd.prog 54 = true := by kernel_rfl
theorem FSha.u73 : Tryd.prog.underlying 73 = some (.int .u64) := by kernel_rfl
theorem FSha.some73 : (Tryd.prog.underlying 73).isSome = true := by kernel_rfl
theorem FSha.some93 : (Tryd.prog.underlying 93).isSome = true := by kernel_rfl
theorem FSha.arr58 : arrB Tryd.prog 58 32 1 = true := by kernel_rfl
theorem FSha.agg58 : aggT Tryd.prog 58 32 = true := by kernel_rfl
theorem FSha.sz58 : szT Tryd.prog 58 32 = true := by kernel_rfl
theorem FSha.call42 : callB Tryd.prog 42 = true := by kernel_rfl
theorem sha_New_ok {B : Nat} {w0 w : World} {L : List Rg} {iG0 : Nat} (hG0 : L[iG0]? = some ⟨some 0, 0, 8, fun q => VU .u32 (H256 q), false⟩)  {r : ((Nat → BitVec 32) × (Nat → BitVec 8) × Nat)} (hR : sha_New r) (HST : St B w0 (L) w) :
  Calls Tryd.prog 39 #[] w fun e w' => ∃ b0 : Nat, e = .returned (.pointer (some ⟨b0, 0, none⟩)) ∧ St B w0 (⟨some b0, 0, 8, fun q => VU .u32 (r.1 q), true⟩ :: ⟨some b0, 8, 64, fun q => VU .u8 (r.2.1 q), true⟩ :: ⟨some b0, 72, 1, fun _ => VN r.2.2, true⟩ :: L) w' := by
 refine W.enter 4 Tryd.func39 rfl rfl rfl ?_
 unfold sha_New at hR
 refine W.seq_k fun _ k1 => W.regionT [(0, true)] (by kernel_rfl) ?_
 refine Plan.assign_ptr rfl rfl <| Plan.nil (k1 _ _ ?_); clear k1
 refine W.seq_k fun _ k2 => W.regionT [(0, true), (1, true), (2, false), (3, true)] (by kernel_rfl) ?_
 refine Plan.loadA1 HST (iG0 + 0) rfl rfl hG0 FSha.agg94 ?_
 refine Plan.buildP (ps := [(8, fun q => VU .u32 (H256 q)), (64, fun q => VU .u8 ((fun _ => 0#8) q)), (1, fun _ => VN 0)]) FSha.pl97 (by decide) FSha.z97 rfl rfl (.agg [] [(8, fun q => VU .u32 ((fun _ => 0#32) q))] [(64, fun q => VU .u8 ((fun _ => 0#8) q)), (1, fun _ => VN 0)] [(8, fun q => VU .u32 (H256 q))] rfl rfl .nil) ?_
 refine Plan.boxA HST rfl rfl (PIn.cons (iG0 + 0) hG0 PIn.nil) fun b3 w3 hb3 h3 => ?_
 simp only [rngs, Nat.zero_add, Nat.reduceAdd, zca, zna] at h3
 refine Plan.assign_ptr rfl rfl <| Plan.nil (k2 _ _ ?_); clear k2
 refine W.ret (finR_ret ?_)
 subst r
 refine RetOk.mk (.tmp_ptr rfl .nil) ?_
 exact ⟨b3, rfl, h3⟩
theorem sha_right_ok {B : Nat} {w0 w : World} {L : List Rg} {n_1 : Int} {x_2 : BitVec 32} {r : (BitVec 32)} (hR : sha_right n_1 x_2 r) (HST : St B w0 (L) w) :
  Calls Tryd.prog 60 #[.int .i64 n_1, VU .u32 x_2] w fun e w' => e = .returned (VU .u32 r) ∧ St B w0 (L) w' := by
 refine W.enter 9 Tryd.func60 rfl rfl rfl ?_
 unfold sha_right at hR
 refine W.seq_k fun _ k3 => W.regionT [(0, true)] (by kernel_rfl) ?_
 refine Plan.assign_int rfl rfl <| Plan.nil (k3 _ _ ?_); clear k3
 refine W.seq_k fun _ k4 => W.regionT [(0, true), (1, true), (2, true), (3, false), (4, true)] (by kernel_rfl) ?_
 refine Plan.move_int rfl rfl <| Plan.move_int rfl rfl ?_
 obtain ⟨hc5, hR⟩ := hR
 refine Plan.negI rfl rfl (by omega) ?_
 obtain ⟨x_7, hr6, hR⟩ := hR
 refine Plan.call (vs := [VU .u32 x_2, .int .i64 (-n_1)]) rfl FSha.call67 rfl (bits_RotateLeft32_ok  hr6 HST) ?_
 rintro _ w8 ⟨rfl, h8⟩
 refine ⟨_, rfl, .inl ⟨PIn.keep PIn.nil h8, ?_⟩⟩
 refine Plan.assign_int rfl rfl <| Plan.nil (k4 _ _ ?_); clear k4
 refine W.ret (finR_ret ?_)
 subst r
 refine RetOk.mk (.tmp_int rfl .nil) ?_
 exact ⟨rfl, h8⟩
theorem sha_Compress_ok {B : Nat} {w0 w : World} {L : List Rg} {iG1 : Nat} (hG1 : L[iG1]? = some ⟨some 1, 0, 64, fun q => VU .u32 (K256 q), false⟩) {state1 : Nat → BitVec 32} {block2 : Nat → BitVec 8} {r : (Nat → BitVec 32)} (hR : sha_Compress state1 block2 r) (HST : St B w0 (L) w) :
  Calls Tryd.prog 53 #[AG [(8, fun q => VU .u32 (state1 q))], AG [(64, fun q => VU .u8 (block2 q))]] w fun e w' => e = .returned (AG [(8, fun q => VU .u32 (r q))]) ∧ St B w0 (L) w' := by
 refine W.enter 199 Tryd.func53 rfl rfl rfl ?_
 unfold sha_Compress at hR
 refine W.seq_k fun _ k3 => W.regionT [(0, false), (1, false), (2, false)] (by kernel_rfl) ?_
 refine Plan.boxA HST rfl rfl PIn.nil fun b4 w4 hb4 h4 => ?_
 simp only [rngs, Nat.zero_add, Nat.reduceAdd, zca, zna] at h4
 refine Plan.boxA h4 rfl rfl PIn.nil fun b5 w5 hb5 h5 => ?_
 simp only [rngs, Nat.zero_add, Nat.reduceAdd, zca, zna] at h5
 refine Plan.alloc h5 rfl FSha.z94 PIn.nil fun b6 w6 hb6 h6 => ?_
 simp only [rngs, Nat.zero_add, Nat.reduceAdd, zca, zna] at h6
 refine Plan.nil (k3 _ _ ?_); clear k3
 refine W.seq_k fun _ k7 => W.regionT [(0, false)] (by kernel_rfl) ?_
 refine Plan.alloc h6 rfl FSha.z107 PIn.nil fun b8 w8 hb8 h8 => ?_
 simp only [rngs, Nat.zero_add, Nat.reduceAdd, zca, zna] at h8
 refine Plan.nil (k7 _ _ ?_); clear k7
 refine W.seq_k fun _ k9 => W.seq_k fun _ k10 => ?_
 refine W.regionT [(0, true)] (by kernel_rfl) ?_
 refine Plan.move_int rfl rfl <| Plan.nil (k10 _ _ ?_); clear k10
 obtain ⟨m28, hI29, hR029⟩ := hR
 refine W.cutN (fun e w => ∃ y_m28 : Nat → BitVec 32, m28 = y_m28 ∧ EnvHas e [(2, .pointer (some ⟨b4, 0, none⟩)), (4, .pointer (some ⟨b6, 0, none⟩)), (5, .pointer (some ⟨b8, 0, none⟩))] ∧ St B w0 (⟨some b8, 0, 64, fun q => VU .u32 (y_m28 q), true⟩ :: ⟨some b6, 0, 8, fun q => VU .u32 ((fun _ => 0#32) q), true⟩ :: ⟨some b4, 0, 8, fun q => VU .u32 (state1 q), true⟩ :: L) w) ?_ ?_
 ·
  refine W.block ?_
  refine W.iter hI29 (fun (s29 : (Nat × (Nat → BitVec 32))) e w => EnvHas e [(2, .pointer (some ⟨b4, 0, none⟩)), (3, .pointer (some ⟨b5, 0, none⟩)), (4, .pointer (some ⟨b6, 0, none⟩)), (5, .pointer (some ⟨b8, 0, none⟩)), (23, VN s29.1)] ∧ St B w0 (⟨some b8, 0, 64, fun q => VU .u32 (s29.2 q), true⟩ :: ⟨some b6, 0, 8, fun q => VU .u32 ((fun _ => 0#32) q), true⟩ :: ⟨some b5, 0, 64, fun q => VU .u8 (block2 q), true⟩ :: ⟨some b4, 0, 8, fun q => VU .u32 (state1 q), true⟩ :: L) w) ⟨(zer (zer (zer (zer (zer zen))))), h8⟩ ?_
  rintro ⟨t26, m27⟩ o29 hR hx29 ev30 wl30 ⟨he30, h30⟩
  obtain ⟨ev30, rfl⟩ := he30.open
  unfold sha_Compress_l0 at hR
  refine W.seq_k fun _ k31 => W.regionT [(0, true)] (by kernel_rfl) ?_
  refine Plan.cmpP (a := (((t26 : Nat) : Int) : Int)) (b := (16 : Int)) (p := t26 < 16) rfl rfl rfl rfl icmp_ltN <| Plan.nil (k31 _ _ ?_); clear k31
  refine W.seq_k fun _ k32 => ?_
  by_cases hc33 : t26 < 16
  ·
   replace hR := ifT hR hc33
   refine W.condT (congrArg Value.bool (decide_eq_true hc33)) ?_
   refine W.skip ?_
   refine k32 _ _ ?_; clear k32
   refine W.seq_k fun _ k34 => ?_
   refine W.block ?_
   refine W.seq_k fun _ k35 => W.regionT [(0, true), (1, true)] (by kernel_rfl) ?_
   refine Plan.move_int rfl rfl <| Plan.assign_int rfl rfl <| Plan.nil (k35 _ _ ?_); clear k35
   refine W.regionD FSha.mixed [(0, true), (1, true), (2, true), (3, true), (4, true), (5, true), (6, true), (7, true), (8, true), (9, true), (10, true), (11, true), (12, true), (13, true), (14, true), (15, true), (16, true), (17, true), (18, true), (19, true), (20, true), (21, true), (22, true), (23, true), (24, true), (25, true), (26, true), (27, true), (28, true), (29, true), (30, true), (31, false)] (by kernel_rfl) ?_
   have h36 := h30.drew
   refine Plan.move_int rfl rfl <| Plan.move_int rfl rfl <| Plan.mulN (a := 4) (b := t26) rfl rfl rfl (by omega) <| Plan.idxArr1 (j := (4 * t26)) FSha.arr95 rfl rfl rfl (by omega) <| Plan.load1 (j := (4 * t26)) h36 2 rfl rfl rfl (by omega) FSha.sc5 <| Plan.convUU .u32 (X := (block2 (4 * t26))) FSha.u93 FSha.some5 rfl rfl <| Plan.shlU .u32 (X := ((block2 (4 * t26)).setWidth 32)) (c := 24) rfl rfl rfl <| Plan.move_int rfl rfl ?_
   refine Plan.mulN (a := 4) (b := t26) rfl rfl rfl (by omega) <| Plan.addN (a := (4 * t26)) (b := 1) rfl rfl rfl (by omega) <| Plan.idxArr1 (j := ((4 * t26) + 1)) FSha.arr95 rfl rfl rfl (by omega) <| Plan.load1 (j := ((4 * t26) + 1)) h36 2 rfl rfl rfl (by omega) FSha.sc5 <| Plan.convUU .u32 (X := (block2 ((4 * t26) + 1))) FSha.u93 FSha.some5 rfl rfl <| Plan.shlU .u32 (X := ((block2 ((4 * t26) + 1)).setWidth 32)) (c := 16) rfl rfl rfl <| Plan.orU .u32 (X := (((block2 (4 * t26)).setWidth 32) <<< 24)) (Y := (((block2 ((4 * t26) + 1)).setWidth 32) <<< 16)) rfl rfl rfl <| Plan.move_int rfl rfl ?_
   refine Plan.mulN (a := 4) (b := t26) rfl rfl rfl (by omega) <| Plan.addN (a := (4 * t26)) (b := 2) rfl rfl rfl (by omega) <| Plan.idxArr1 (j := ((4 * t26) + 2)) FSha.arr95 rfl rfl rfl (by omega) <| Plan.load1 (j := ((4 * t26) + 2)) h36 2 rfl rfl rfl (by omega) FSha.sc5 <| Plan.convUU .u32 (X := (block2 ((4 * t26) + 2))) FSha.u93 FSha.some5 rfl rfl <| Plan.shlU .u32 (X := ((block2 ((4 * t26) + 2)).setWidth 32)) (c := 8) rfl rfl rfl <| Plan.orU .u32 (X := ((((block2 (4 * t26)).setWidth 32) <<< 24) ||| (((block2 ((4 * t26) + 1)).setWidth 32) <<< 16))) (Y := (((block2 ((4 * t26) + 2)).setWidth 32) <<< 8)) rfl rfl rfl <| Plan.move_int rfl rfl ?_
   refine Plan.mulN (a := 4) (b := t26) rfl rfl rfl (by omega) <| Plan.addN (a := (4 * t26)) (b := 3) rfl rfl rfl (by omega) <| Plan.idxArr1 (j := ((4 * t26) + 3)) FSha.arr95 rfl rfl rfl (by omega) <| Plan.load1 (j := ((4 * t26) + 3)) h36 2 rfl rfl rfl (by omega) FSha.sc5 <| Plan.convUU .u32 (X := (block2 ((4 * t26) + 3))) FSha.u93 FSha.some5 rfl rfl <| Plan.orU .u32 (X := (((((block2 (4 * t26)).setWidth 32) <<< 24) ||| (((block2 ((4 * t26) + 1)).setWidth 32) <<< 16)) ||| (((block2 ((4 * t26) + 2)).setWidth 32) <<< 8))) (Y := ((block2 ((4 * t26) + 3)).setWidth 32)) rfl rfl rfl <| Plan.idxArr1 (j := t26) FSha.arr107 rfl rfl rfl (by omega) ?_
   refine Plan.storeU (j := t26) (X := ((((((block2 (4 * t26)).setWidth 32) <<< 24) ||| (((block2 ((4 * t26) + 1)).setWidth 32) <<< 16)) ||| (((block2 ((4 * t26) + 2)).setWidth 32) <<< 8)) ||| ((block2 ((4 * t26) + 3)).setWidth 32))) h36 0 rfl rfl rfl rfl (by omega) FSha.sz93 rfl fun w37 h37 => ?_
   simp only [zca, zna, zsz, zss] at h37
   refine Plan.nil ?_
   refine blockR_norm ?_
   refine k34 _ _ ?_; clear k34
   refine W.regionT [(0, true), (1, true)] (by kernel_rfl) ?_
   refine Plan.addN (a := t26) (b := 1) rfl rfl rfl (by omega) <| Plan.move_int rfl rfl <| Plan.nil ?_
   exact iterR_norm ⟨_, hR, (zer (zer (zer (zer (zer zen))))), h37⟩
  ·
   replace hR := ifF hR hc33
   refine W.condF (congrArg Value.bool (decide_eq_false hc33)) ?_
   refine W.exit (thenR_exit (iterR_exit (blockR_here ?_)))
   have h38 := St.pickT (C := [_, _, _, _]) h30 [0, 1, 3] (by decide)
   simp only [pick, zfc, zfn, zgz, zgs, zca, zna] at h38
   exact ⟨m27, (hx29 _ hR).symm, (zer (zer (zer zen))), h38⟩
 ·
  rintro ev39 wl39 ⟨y_m28, hy39, he39, h39⟩
  obtain ⟨ev39, rfl⟩ := he39.open
  subst hy39
  replace hR := hR029
  refine k9 _ _ ?_; clear k9
  refine W.seq_k fun _ k40 => W.seq_k fun _ k41 => ?_
  refine W.regionT [(0, true)] (by kernel_rfl) ?_
  refine Plan.assign_int rfl rfl <| Plan.nil (k41 _ _ ?_); clear k41
  obtain ⟨m89, hI90, hR090⟩ := hR
  refine W.cutN (fun e w => ∃ y_m89 : Nat → BitVec 32, m89 = y_m89 ∧ EnvHas e [(2, .pointer (some ⟨b4, 0, none⟩)), (4, .pointer (some ⟨b6, 0, none⟩)), (5, .pointer (some ⟨b8, 0, none⟩))] ∧ St B w0 (⟨some b8, 0, 64, fun q => VU .u32 (y_m89 q), true⟩ :: ⟨some b6, 0, 8, fun q => VU .u32 ((fun _ => 0#32) q), true⟩ :: ⟨some b4, 0, 8, fun q => VU .u32 (state1 q), true⟩ :: L) w) ?_ ?_
  ·
   refine W.block ?_
   refine W.iter hI90 (fun (s90 : (Nat × (Nat → BitVec 32))) e w => EnvHas e [(2, .pointer (some ⟨b4, 0, none⟩)), (4, .pointer (some ⟨b6, 0, none⟩)), (5, .pointer (some ⟨b8, 0, none⟩)), (7, VN s90.1)] ∧ St B w0 (⟨some b8, 0, 64, fun q => VU .u32 (s90.2 q), true⟩ :: ⟨some b6, 0, 8, fun q => VU .u32 ((fun _ => 0#32) q), true⟩ :: ⟨some b4, 0, 8, fun q => VU .u32 (state1 q), true⟩ :: L) w) ⟨(zer (zer (zer (zer zen)))), h39⟩ ?_
   rintro ⟨t87, m88⟩ o90 hR hx90 ev91 wl91 ⟨he91, h91⟩
   obtain ⟨ev91, rfl⟩ := he91.open
   unfold sha_Compress_l1 at hR
   refine W.seq_k fun _ k92 => W.seq_k fun _ k93 => ?_
   refine W.regionT [(0, true), (1, true)] (by kernel_rfl) ?_
   refine Plan.move_int rfl rfl <| Plan.cmpP (a := (((t87 : Nat) : Int) : Int)) (b := (64 : Int)) (p := t87 < 64) rfl rfl rfl rfl icmp_ltN <| Plan.nil (k93 _ _ ?_); clear k93
   by_cases hc94 : t87 < 64
   ·
    replace hR := ifT hR hc94
    refine W.condT (congrArg Value.bool (decide_eq_true hc94)) ?_
    refine W.skip ?_
    refine k92 _ _ ?_; clear k92
    refine W.seq_k fun _ k95 => ?_
    refine W.block ?_
    refine W.seq_k fun _ k96 => ?_
    refine W.regionD FSha.mixed [(0, true), (1, true), (2, true), (3, true), (4, true), (5, true), (6, true), (7, true), (8, true), (9, true)] (by kernel_rfl) ?_
    have h97 := h91.drew
    refine Plan.move_int rfl rfl <| Plan.subI (a := ((t87 : Nat) : Int)) (b := 15) rfl rfl rfl (by omega) ?_
    obtain ⟨hc98, hR⟩ := hR
    refine Plan.idxArr1 (j := (((t87 : Nat) : Int) - 15).toNat) FSha.arr107 rfl rfl (congrArg (Value.int .i64) (Int.toNat_of_nonneg hc98.1).symm) (by omega) <| Plan.load1 (j := (((t87 : Nat) : Int) - 15).toNat) h97 0 rfl rfl rfl (by omega) FSha.sc93 <| Plan.move_int rfl rfl <| Plan.subI (a := ((t87 : Nat) : Int)) (b := 2) rfl rfl rfl (by omega) ?_
    obtain ⟨hc99, hR⟩ := hR
    refine Plan.idxArr1 (j := (((t87 : Nat) : Int) - 2).toNat) FSha.arr107 rfl rfl (congrArg (Value.int .i64) (Int.toNat_of_nonneg hc99.1).symm) (by omega) <| Plan.load1 (j := (((t87 : Nat) : Int) - 2).toNat) h97 0 rfl rfl rfl (by omega) FSha.sc93 <| Plan.assign_int rfl rfl <| Plan.assign_int rfl rfl <| Plan.nil (k96 _ _ ?_); clear k96
    refine W.regionD FSha.mixed [(0, true), (1, true), (3, true), (6, true), (7, true), (9, true), (10, true), (11, true), (12, true), (14, true), (16, true), (19, true), (20, true), (23, true), (24, true), (25, true), (26, true), (2, false), (4, false), (5, true), (8, true), (13, true), (15, false), (17, false), (18, true), (21, true), (22, true), (27, true), (28, true), (29, false)] (by kernel_rfl) ?_
    have h100 := h97.drew
    refine Plan.move_int rfl rfl <| Plan.move_int rfl rfl <| Plan.move_int rfl rfl <| Plan.move_int rfl rfl <| Plan.shrU .u32 (X := (m88 ((((t87 : Nat) : Int) - 2).toNat))) (c := 10) rfl rfl rfl <| Plan.move_int rfl rfl <| Plan.subI (a := ((t87 : Nat) : Int)) (b := 7) rfl rfl rfl (by omega) ?_
    obtain ⟨hc101, hR⟩ := hR
    refine Plan.idxArr1 (j := (((t87 : Nat) : Int) - 7).toNat) FSha.arr107 rfl rfl (congrArg (Value.int .i64) (Int.toNat_of_nonneg hc101.1).symm) (by omega) <| Plan.load1 (j := (((t87 : Nat) : Int) - 7).toNat) h100 0 rfl rfl rfl (by omega) FSha.sc93 <| Plan.move_int rfl rfl <| Plan.move_int rfl rfl <| Plan.move_int rfl rfl <| Plan.shrU .u32 (X := (m88 ((((t87 : Nat) : Int) - 15).toNat))) (c := 3) rfl rfl rfl <| Plan.move_int rfl rfl <| Plan.subI (a := ((t87 : Nat) : Int)) (b := 16) rfl rfl rfl (by omega) ?_
    obtain ⟨hc102, hR⟩ := hR
    refine Plan.idxArr1 (j := (((t87 : Nat) : Int) - 16).toNat) FSha.arr107 rfl rfl (congrArg (Value.int .i64) (Int.toNat_of_nonneg hc102.1).symm) (by omega) <| Plan.load1 (j := (((t87 : Nat) : Int) - 16).toNat) h100 0 rfl rfl rfl (by omega) FSha.sc93 ?_
    obtain ⟨x_104, hr103, hR⟩ := hR
    refine Plan.call (vs := [VN 17, VU .u32 (m88 ((((t87 : Nat) : Int) - 2).toNat))]) rfl FSha.call60 rfl (sha_right_ok  hr103 h100) ?_
    rintro _ w105 ⟨rfl, h105⟩
    refine ⟨_, rfl, .inl ⟨PIn.keep (PIn.cons 0 rfl (PIn.cons 0 rfl PIn.nil)) h105, ?_⟩⟩
    obtain ⟨x_107, hr106, hR⟩ := hR
    refine Plan.call (vs := [VN 19, VU .u32 (m88 ((((t87 : Nat) : Int) - 2).toNat))]) rfl FSha.call60 rfl (sha_right_ok  hr106 h105) ?_
    rintro _ w108 ⟨rfl, h108⟩
    refine ⟨_, rfl, .inl ⟨PIn.keep (PIn.cons 0 rfl (PIn.cons 0 rfl PIn.nil)) h108, ?_⟩⟩
    refine Plan.xorU .u32 (X := x_104) (Y := x_107) rfl rfl rfl <| Plan.xorU .u32 (X := (x_104 ^^^ x_107)) (Y := ((m88 ((((t87 : Nat) : Int) - 2).toNat)) >>> 10)) rfl rfl rfl <| Plan.addU .u32 (X := ((x_104 ^^^ x_107) ^^^ ((m88 ((((t87 : Nat) : Int) - 2).toNat)) >>> 10))) (Y := (m88 ((((t87 : Nat) : Int) - 7).toNat))) rfl rfl rfl ?_
    obtain ⟨x_110, hr109, hR⟩ := hR
    refine Plan.call (vs := [VN 7, VU .u32 (m88 ((((t87 : Nat) : Int) - 15).toNat))]) rfl FSha.call60 rfl (sha_right_ok  hr109 h108) ?_
    rintro _ w111 ⟨rfl, h111⟩
    refine ⟨_, rfl, .inl ⟨PIn.keep (PIn.cons 0 rfl (PIn.cons 0 rfl PIn.nil)) h111, ?_⟩⟩
    obtain ⟨x_113, hr112, hR⟩ := hR
    refine Plan.call (vs := [VN 18, VU .u32 (m88 ((((t87 : Nat) : Int) - 15).toNat))]) rfl FSha.call60 rfl (sha_right_ok  hr112 h111) ?_
    rintro _ w114 ⟨rfl, h114⟩
    refine ⟨_, rfl, .inl ⟨PIn.keep (PIn.cons 0 rfl (PIn.cons 0 rfl PIn.nil)) h114, ?_⟩⟩
    refine Plan.xorU .u32 (X := x_110) (Y := x_113) rfl rfl rfl <| Plan.xorU .u32 (X := (x_110 ^^^ x_113)) (Y := ((m88 ((((t87 : Nat) : Int) - 15).toNat)) >>> 3)) rfl rfl rfl <| Plan.addU .u32 (X := (((x_104 ^^^ x_107) ^^^ ((m88 ((((t87 : Nat) : Int) - 2).toNat)) >>> 10)) + (m88 ((((t87 : Nat) : Int) - 7).toNat)))) (Y := ((x_110 ^^^ x_113) ^^^ ((m88 ((((t87 : Nat) : Int) - 15).toNat)) >>> 3))) rfl rfl rfl <| Plan.addU .u32 (X := ((((x_104 ^^^ x_107) ^^^ ((m88 ((((t87 : Nat) : Int) - 2).toNat)) >>> 10)) + (m88 ((((t87 : Nat) : Int) - 7).toNat))) + ((x_110 ^^^ x_113) ^^^ ((m88 ((((t87 : Nat) : Int) - 15).toNat)) >>> 3)))) (Y := (m88 ((((t87 : Nat) : Int) - 16).toNat))) rfl rfl rfl <| Plan.idxArr1 (j := t87) FSha.arr107 rfl rfl rfl (by omega) ?_
    refine Plan.storeU (j := t87) (X := (((((x_104 ^^^ x_107) ^^^ ((m88 ((((t87 : Nat) : Int) - 2).toNat)) >>> 10)) + (m88 ((((t87 : Nat) : Int) - 7).toNat))) + ((x_110 ^^^ x_113) ^^^ ((m88 ((((t87 : Nat) : Int) - 15).toNat)) >>> 3))) + (m88 ((((t87 : Nat) : Int) - 16).toNat)))) h114 0 rfl rfl rfl rfl (by omega) FSha.sz93 rfl fun w115 h115 => ?_
    simp only [zca, zna, zsz, zss] at h115
    refine Plan.nil ?_
    refine blockR_norm ?_
    refine k95 _ _ ?_; clear k95
    refine W.regionT [(0, true), (1, true), (2, true)] (by kernel_rfl) ?_
    refine Plan.move_int rfl rfl <| Plan.addN (a := t87) (b := 1) rfl rfl rfl (by omega) <| Plan.assign_int rfl rfl <| Plan.nil ?_
    exact iterR_norm ⟨_, hR, (zer (zer (zer (zer zen)))), h115⟩
   ·
    replace hR := ifF hR hc94
    refine W.condF (congrArg Value.bool (decide_eq_false hc94)) ?_
    refine W.exit (thenR_exit (iterR_exit (blockR_here ?_)))
    exact ⟨m88, (hx90 _ hR).symm, (zer (zer (zer zen))), h91⟩
  ·
   rintro ev116 wl116 ⟨y_m89, hy116, he116, h116⟩
   obtain ⟨ev116, rfl⟩ := he116.open
   subst hy116
   replace hR := hR090
   refine k40 _ _ ?_; clear k40
   refine W.seq_k fun _ k117 => ?_
   refine W.regionD FSha.mixed [(0, true), (1, true), (2, true), (3, true), (4, true), (5, true), (6, true), (7, true), (8, true), (9, true), (10, true), (11, true), (12, true), (13, true), (14, true), (15, true), (16, true), (17, true), (18, true), (19, true), (20, true), (21, true), (22, true), (23, true)] (by kernel_rfl) ?_
   have h118 := h116.drew
   refine Plan.idxArr1 (j := 0) FSha.arr94 rfl rfl rfl (by omega) <| Plan.load1 (j := 0) h118 2 rfl rfl rfl (by omega) FSha.sc93 <| Plan.idxArr1 (j := 1) FSha.arr94 rfl rfl rfl (by omega) <| Plan.load1 (j := 1) h118 2 rfl rfl rfl (by omega) FSha.sc93 <| Plan.idxArr1 (j := 2) FSha.arr94 rfl rfl rfl (by omega) <| Plan.load1 (j := 2) h118 2 rfl rfl rfl (by omega) FSha.sc93 <| Plan.idxArr1 (j := 3) FSha.arr94 rfl rfl rfl (by omega) <| Plan.load1 (j := 3) h118 2 rfl rfl rfl (by omega) FSha.sc93 ?_
   refine Plan.idxArr1 (j := 4) FSha.arr94 rfl rfl rfl (by omega) <| Plan.load1 (j := 4) h118 2 rfl rfl rfl (by omega) FSha.sc93 <| Plan.idxArr1 (j := 5) FSha.arr94 rfl rfl rfl (by omega) <| Plan.load1 (j := 5) h118 2 rfl rfl rfl (by omega) FSha.sc93 <| Plan.idxArr1 (j := 6) FSha.arr94 rfl rfl rfl (by omega) <| Plan.load1 (j := 6) h118 2 rfl rfl rfl (by omega) FSha.sc93 <| Plan.idxArr1 (j := 7) FSha.arr94 rfl rfl rfl (by omega) <| Plan.load1 (j := 7) h118 2 rfl rfl rfl (by omega) FSha.sc93 ?_
   refine Plan.assign_int rfl rfl <| Plan.assign_int rfl rfl <| Plan.assign_int rfl rfl <| Plan.assign_int rfl rfl <| Plan.assign_int rfl rfl <| Plan.assign_int rfl rfl <| Plan.assign_int rfl rfl <| Plan.assign_int rfl rfl ?_
   refine Plan.nil (k117 _ _ ?_); clear k117
   refine W.seq_k fun _ k119 => W.seq_k fun _ k120 => ?_
   refine W.regionT [(0, true)] (by kernel_rfl) ?_
   refine Plan.move_int rfl rfl <| Plan.nil (k120 _ _ ?_); clear k120
   obtain ⟨a190, b191, c192, d_193, e_194, f195, g_196, h_197, hI198, hR0198⟩ := hR
   refine W.cutN (fun e w => ∃ y_a190 : BitVec 32, ∃ y_b191 : BitVec 32, ∃ y_c192 : BitVec 32, ∃ y_d_193 : BitVec 32, ∃ y_e_194 : BitVec 32, ∃ y_f195 : BitVec 32, ∃ y_g_196 : BitVec 32, ∃ y_h_197 : BitVec 32, (a190, b191, c192, d_193, e_194, f195, g_196, h_197) = (y_a190, y_b191, y_c192, y_d_193, y_e_194, y_f195, y_g_196, y_h_197) ∧ EnvHas e [(2, .pointer (some ⟨b4, 0, none⟩)), (4, .pointer (some ⟨b6, 0, none⟩)), (10, VU .u32 y_a190), (11, VU .u32 y_b191), (12, VU .u32 y_c192), (13, VU .u32 y_d_193), (14, VU .u32 y_e_194), (15, VU .u32 y_f195), (16, VU .u32 y_g_196), (17, VU .u32 y_h_197)] ∧ St B w0 (⟨some b6, 0, 8, fun q => VU .u32 ((fun _ => 0#32) q), true⟩ :: ⟨some b4, 0, 8, fun q => VU .u32 (state1 q), true⟩ :: L) w) ?_ ?_
   ·
    refine W.block ?_
    refine W.iter hI198 (fun (s198 : ((BitVec 32) × (BitVec 32) × (BitVec 32) × (BitVec 32) × (BitVec 32) × (BitVec 32) × (BitVec 32) × (BitVec 32) × Nat)) e w => EnvHas e [(2, .pointer (some ⟨b4, 0, none⟩)), (4, .pointer (some ⟨b6, 0, none⟩)), (5, .pointer (some ⟨b8, 0, none⟩)), (10, VU .u32 s198.1), (11, VU .u32 s198.2.1), (12, VU .u32 s198.2.2.1), (13, VU .u32 s198.2.2.2.1), (14, VU .u32 s198.2.2.2.2.1), (15, VU .u32 s198.2.2.2.2.2.1), (16, VU .u32 s198.2.2.2.2.2.2.1), (17, VU .u32 s198.2.2.2.2.2.2.2.1), (115, VN s198.2.2.2.2.2.2.2.2)] ∧ St B w0 (⟨some b8, 0, 64, fun q => VU .u32 (m89 q), true⟩ :: ⟨some b6, 0, 8, fun q => VU .u32 ((fun _ => 0#32) q), true⟩ :: ⟨some b4, 0, 8, fun q => VU .u32 (state1 q), true⟩ :: L) w) ⟨(zer (zer (zer (zer (zer (zer (zer (zer (zer (zer (zer (zer zen)))))))))))), h118⟩ ?_
    rintro ⟨a181, b182, c183, d_184, e_185, f186, g_187, h_188, t189⟩ o198 hR hx198 ev199 wl199 ⟨he199, h199⟩
    obtain ⟨ev199, rfl⟩ := he199.open
    unfold sha_Compress_l2 at hR
    refine W.seq_k fun _ k200 => W.regionT [(0, true)] (by kernel_rfl) ?_
    refine Plan.cmpP (a := (((t189 : Nat) : Int) : Int)) (b := (64 : Int)) (p := t189 < 64) rfl rfl rfl rfl icmp_ltN <| Plan.nil (k200 _ _ ?_); clear k200
    refine W.seq_k fun _ k201 => ?_
    by_cases hc202 : t189 < 64
    ·
     replace hR := ifT hR hc202
     refine W.condT (congrArg Value.bool (decide_eq_true hc202)) ?_
     refine W.skip ?_
     refine k201 _ _ ?_; clear k201
     refine W.seq_k fun _ k203 => ?_
     refine W.block ?_
     refine W.seq_k fun _ k204 => W.regionT [(0, true), (1, true)] (by kernel_rfl) ?_
     refine Plan.move_int rfl rfl <| Plan.assign_int rfl rfl <| Plan.nil (k204 _ _ ?_); clear k204
     refine W.seq_k fun _ k205 => ?_
     refine W.regionD FSha.mixed [(0, true), (1, true), (3, true), (6, true), (10, true), (11, true), (12, true), (13, true), (14, true), (15, true), (16, true), (17, true), (19, true), (20, true), (21, true), (23, true), (24, true), (25, true), (2, false), (4, false), (5, true), (7, false), (8, true), (9, true), (18, true), (22, true), (26, true), (27, true)] (by kernel_rfl) ?_
     have h206 := h199.drew
     refine Plan.move_int rfl rfl <| Plan.move_int rfl rfl <| Plan.move_int rfl rfl <| Plan.move_int rfl rfl <| Plan.move_int rfl rfl <| Plan.move_int rfl rfl <| Plan.andU .u32 (X := e_185) (Y := f186) rfl rfl rfl <| Plan.move_int rfl rfl ?_
     refine Plan.compU .u32 rfl rfl <| Plan.move_int rfl rfl <| Plan.andU .u32 (X := (~~~e_185)) (Y := g_187) rfl rfl rfl <| Plan.xorU .u32 (X := (e_185 &&& f186)) (Y := ((~~~e_185) &&& g_187)) rfl rfl rfl <| Plan.move_int rfl rfl <| Plan.idxArr1 (j := t189) FSha.arr107 rfl rfl rfl (by omega) <| Plan.load1 (j := t189) h206 (iG1 + 3) rfl rfl hG1 (by omega) FSha.sc93 <| Plan.move_int rfl rfl ?_
     refine Plan.idxArr1 (j := t189) FSha.arr107 rfl rfl rfl (by omega) <| Plan.load1 (j := t189) h206 0 rfl rfl rfl (by omega) FSha.sc93 ?_
     obtain ⟨x_208, hr207, hR⟩ := hR
     refine Plan.call (vs := [VN 6, VU .u32 e_185]) rfl FSha.call60 rfl (sha_right_ok  hr207 h206) ?_
     rintro _ w209 ⟨rfl, h209⟩
     refine ⟨_, rfl, .inl ⟨PIn.keep (PIn.cons 0 rfl (PIn.cons (iG1 + 3) hG1 PIn.nil)) h209, ?_⟩⟩
     obtain ⟨x_211, hr210, hR⟩ := hR
     refine Plan.call (vs := [VN 11, VU .u32 e_185]) rfl FSha.call60 rfl (sha_right_ok  hr210 h209) ?_
     rintro _ w212 ⟨rfl, h212⟩
     refine ⟨_, rfl, .inl ⟨PIn.keep (PIn.cons 0 rfl (PIn.cons (iG1 + 3) hG1 PIn.nil)) h212, ?_⟩⟩
     refine Plan.xorU .u32 (X := x_208) (Y := x_211) rfl rfl rfl ?_
     obtain ⟨x_214, hr213, hR⟩ := hR
     refine Plan.call (vs := [VN 25, VU .u32 e_185]) rfl FSha.call60 rfl (sha_right_ok  hr213 h212) ?_
     rintro _ w215 ⟨rfl, h215⟩
     refine ⟨_, rfl, .inl ⟨PIn.keep (PIn.cons 0 rfl (PIn.cons (iG1 + 3) hG1 PIn.nil)) h215, ?_⟩⟩
     refine Plan.xorU .u32 (X := (x_208 ^^^ x_211)) (Y := x_214) rfl rfl rfl <| Plan.addU .u32 (X := h_188) (Y := ((x_208 ^^^ x_211) ^^^ x_214)) rfl rfl rfl <| Plan.addU .u32 (X := (h_188 + ((x_208 ^^^ x_211) ^^^ x_214))) (Y := ((e_185 &&& f186) ^^^ ((~~~e_185) &&& g_187))) rfl rfl rfl <| Plan.addU .u32 (X := ((h_188 + ((x_208 ^^^ x_211) ^^^ x_214)) + ((e_185 &&& f186) ^^^ ((~~~e_185) &&& g_187)))) (Y := (K256 t189)) rfl rfl rfl <| Plan.addU .u32 (X := (((h_188 + ((x_208 ^^^ x_211) ^^^ x_214)) + ((e_185 &&& f186) ^^^ ((~~~e_185) &&& g_187))) + (K256 t189))) (Y := (m89 t189)) rfl rfl rfl <| Plan.assign_int rfl rfl <| Plan.nil (k205 _ _ ?_); clear k205
     refine W.seq_k fun _ k216 => W.regionT [(0, true), (1, false), (2, true), (3, false), (4, true), (5, true), (6, false), (7, true), (8, true), (9, true), (10, true), (11, true), (12, true), (13, true), (14, true), (15, true), (16, true), (17, true), (18, true), (19, true), (20, true)] (by kernel_rfl) ?_
     refine Plan.move_int rfl rfl ?_
     obtain ⟨x_218, hr217, hR⟩ := hR
     refine Plan.call (vs := [VN 2, VU .u32 a181]) rfl FSha.call60 rfl (sha_right_ok  hr217 h215) ?_
     rintro _ w219 ⟨rfl, h219⟩
     refine ⟨_, rfl, .inl ⟨PIn.keep PIn.nil h219, ?_⟩⟩
     refine Plan.move_int rfl rfl ?_
     obtain ⟨x_221, hr220, hR⟩ := hR
     refine Plan.call (vs := [VN 13, VU .u32 a181]) rfl FSha.call60 rfl (sha_right_ok  hr220 h219) ?_
     rintro _ w222 ⟨rfl, h222⟩
     refine ⟨_, rfl, .inl ⟨PIn.keep PIn.nil h222, ?_⟩⟩
     refine Plan.xorU .u32 (X := x_218) (Y := x_221) rfl rfl rfl <| Plan.move_int rfl rfl ?_
     obtain ⟨x_224, hr223, hR⟩ := hR
     refine Plan.call (vs := [VN 22, VU .u32 a181]) rfl FSha.call60 rfl (sha_right_ok  hr223 h222) ?_
     rintro _ w225 ⟨rfl, h225⟩
     refine ⟨_, rfl, .inl ⟨PIn.keep PIn.nil h225, ?_⟩⟩
     refine Plan.xorU .u32 (X := (x_218 ^^^ x_221)) (Y := x_224) rfl rfl rfl <| Plan.move_int rfl rfl <| Plan.move_int rfl rfl <| Plan.andU .u32 (X := a181) (Y := b182) rfl rfl rfl <| Plan.move_int rfl rfl <| Plan.move_int rfl rfl <| Plan.andU .u32 (X := a181) (Y := c183) rfl rfl rfl <| Plan.xorU .u32 (X := (a181 &&& b182)) (Y := (a181 &&& c183)) rfl rfl rfl ?_
     refine Plan.move_int rfl rfl <| Plan.move_int rfl rfl <| Plan.andU .u32 (X := b182) (Y := c183) rfl rfl rfl <| Plan.xorU .u32 (X := ((a181 &&& b182) ^^^ (a181 &&& c183))) (Y := (b182 &&& c183)) rfl rfl rfl <| Plan.addU .u32 (X := ((x_218 ^^^ x_221) ^^^ x_224)) (Y := (((a181 &&& b182) ^^^ (a181 &&& c183)) ^^^ (b182 &&& c183))) rfl rfl rfl <| Plan.assign_int rfl rfl <| Plan.nil (k216 _ _ ?_); clear k216
     refine W.regionT [(0, true), (1, true), (2, true), (3, true), (4, true), (5, true), (6, true), (7, true), (8, true), (9, true), (10, true), (11, true), (12, true), (13, true), (14, true), (15, true), (16, true), (17, true), (18, true), (19, true)] (by kernel_rfl) ?_
     refine Plan.move_int rfl rfl <| Plan.move_int rfl rfl <| Plan.addU .u32 (X := ((((h_188 + ((x_208 ^^^ x_211) ^^^ x_214)) + ((e_185 &&& f186) ^^^ ((~~~e_185) &&& g_187))) + (K256 t189)) + (m89 t189))) (Y := (((x_218 ^^^ x_221) ^^^ x_224) + (((a181 &&& b182) ^^^ (a181 &&& c183)) ^^^ (b182 &&& c183)))) rfl rfl rfl <| Plan.move_int rfl rfl <| Plan.move_int rfl rfl <| Plan.move_int rfl rfl <| Plan.move_int rfl rfl <| Plan.move_int rfl rfl ?_
     refine Plan.addU .u32 (X := d_184) (Y := ((((h_188 + ((x_208 ^^^ x_211) ^^^ x_214)) + ((e_185 &&& f186) ^^^ ((~~~e_185) &&& g_187))) + (K256 t189)) + (m89 t189))) rfl rfl rfl <| Plan.move_int rfl rfl <| Plan.move_int rfl rfl <| Plan.move_int rfl rfl <| Plan.assign_int rfl rfl <| Plan.assign_int rfl rfl <| Plan.assign_int rfl rfl <| Plan.assign_int rfl rfl ?_
     refine Plan.assign_int rfl rfl <| Plan.assign_int rfl rfl <| Plan.assign_int rfl rfl <| Plan.assign_int rfl rfl <| Plan.nil ?_
     refine blockR_norm ?_
     refine k203 _ _ ?_; clear k203
     refine W.regionT [(0, true), (1, true)] (by kernel_rfl) ?_
     refine Plan.addN (a := t189) (b := 1) rfl rfl rfl (by omega) <| Plan.move_int rfl rfl <| Plan.nil ?_
     exact iterR_norm ⟨_, hR, (zer (zer (zer (zer (zer (zer (zer (zer (zer (zer (zer (zer zen)))))))))))), h225⟩
    ·
     replace hR := ifF hR hc202
     refine W.condF (congrArg Value.bool (decide_eq_false hc202)) ?_
     refine W.exit (thenR_exit (iterR_exit (blockR_here ?_)))
     have h226 := St.pickT (C := [_, _, _]) h199 [1, 2] (by decide)
     simp only [pick, zfc, zfn, zgz, zgs, zca, zna] at h226
     exact ⟨a181, b182, c183, d_184, e_185, f186, g_187, h_188, (hx198 _ hR).symm, (zer (zer (zer (zer (zer (zer (zer (zer (zer (zer zen)))))))))), h226⟩
   ·
    rintro ev227 wl227 ⟨y_a190, y_b191, y_c192, y_d_193, y_e_194, y_f195, y_g_196, y_h_197, hy227, he227, h227⟩
    obtain ⟨ev227, rfl⟩ := he227.open
    cases hy227
    replace hR := hR0198
    refine k119 _ _ ?_; clear k119
    refine W.seq_k fun _ k228 => W.seq_k fun _ k229 => ?_
    refine W.regionT [(0, true), (1, true), (2, true), (3, true), (4, true), (5, true), (6, true), (7, true), (8, true), (9, true)] (by kernel_rfl) ?_
    refine Plan.move_int rfl rfl <| Plan.move_int rfl rfl <| Plan.move_int rfl rfl <| Plan.move_int rfl rfl <| Plan.move_int rfl rfl <| Plan.move_int rfl rfl <| Plan.move_int rfl rfl <| Plan.move_int rfl rfl ?_
    refine Plan.buildArr (ps := [(8, fun q => VU .u32 ((lit [a190, b191, c192, d_193, e_194, f195, g_196, h_197]) q))]) FSha.arr94 FSha.z94 rfl rfl rfl ?_
    refine Plan.move_int rfl rfl <| Plan.nil (k229 _ _ ?_); clear k229
    obtain ⟨m245, hI246, hR0246⟩ := hR
    refine W.cutN (fun e w => ∃ y_m245 : Nat → BitVec 32, m245 = y_m245 ∧ EnvHas e [(2, .pointer (some ⟨b4, 0, none⟩)), (4, .pointer (some ⟨b6, 0, none⟩))] ∧ St B w0 (⟨some b6, 0, 8, fun q => VU .u32 ((fun _ => 0#32) q), true⟩ :: ⟨some b4, 0, 8, fun q => VU .u32 (y_m245 q), true⟩ :: L) w) ?_ ?_
    ·
     refine W.block ?_
     refine W.iter hI246 (fun (s246 : (Nat × (Nat → BitVec 32))) e w => EnvHas e [(2, .pointer (some ⟨b4, 0, none⟩)), (4, .pointer (some ⟨b6, 0, none⟩)), (186, AG [(8, fun q => VU .u32 ((lit [a190, b191, c192, d_193, e_194, f195, g_196, h_197]) q))]), (187, VN s246.1)] ∧ St B w0 (⟨some b6, 0, 8, fun q => VU .u32 ((fun _ => 0#32) q), true⟩ :: ⟨some b4, 0, 8, fun q => VU .u32 (s246.2 q), true⟩ :: L) w) ⟨(zer (zer (zer (zer zen)))), h227⟩ ?_
     rintro ⟨t243, m244⟩ o246 hR hx246 ev247 wl247 ⟨he247, h247⟩
     obtain ⟨ev247, rfl⟩ := he247.open
     unfold sha_Compress_l3 at hR
     refine W.seq_k fun _ k248 => W.regionT [(0, true)] (by kernel_rfl) ?_
     refine Plan.cmpP (a := (((t243 : Nat) : Int) : Int)) (b := (8 : Int)) (p := t243 < 8) rfl rfl rfl rfl icmp_ltN <| Plan.nil (k248 _ _ ?_); clear k248
     refine W.seq_k fun _ k249 => ?_
     by_cases hc250 : t243 < 8
     ·
      replace hR := ifT hR hc250
      refine W.condT (congrArg Value.bool (decide_eq_true hc250)) ?_
      refine W.skip ?_
      refine k249 _ _ ?_; clear k249
      refine W.seq_k fun _ k251 => ?_
      refine W.block ?_
      refine W.seq_k fun _ k252 => W.regionT [(0, true), (1, true), (2, true), (3, true)] (by kernel_rfl) ?_
      refine Plan.move_int rfl rfl <| Plan.indexA (j := t243) FSha.isarr94 FSha.sz93 FSha.sc93 rfl rfl rfl (by omega) (by decide) <| Plan.assign_int rfl rfl <| Plan.assign_int rfl rfl <| Plan.nil (k252 _ _ ?_); clear k252
      refine W.regionT [(0, true), (1, true), (2, true), (3, true), (4, true), (5, true), (6, false)] (by kernel_rfl) ?_
      refine Plan.move_int rfl rfl <| Plan.idxArr1 (j := t243) FSha.arr94 rfl rfl rfl (by omega) <| Plan.load1 (j := t243) h247 1 rfl rfl rfl (by omega) FSha.sc93 <| Plan.move_int rfl rfl <| Plan.addU .u32 (X := (m244 t243)) (Y := ((lit [a190, b191, c192, d_193, e_194, f195, g_196, h_197]) t243)) rfl rfl rfl <| Plan.idxArr1 (j := t243) FSha.arr94 rfl rfl rfl (by omega) ?_
      refine Plan.storeU (j := t243) (X := ((m244 t243) + ((lit [a190, b191, c192, d_193, e_194, f195, g_196, h_197]) t243))) h247 1 rfl rfl rfl rfl (by omega) FSha.sz93 rfl fun w253 h253 => ?_
      simp only [zca, zna, zsz, zss] at h253
      refine Plan.nil ?_
      refine blockR_norm ?_
      refine k251 _ _ ?_; clear k251
      refine W.regionT [(0, true), (1, true)] (by kernel_rfl) ?_
      refine Plan.addN (a := t243) (b := 1) rfl rfl rfl (by omega) <| Plan.move_int rfl rfl <| Plan.nil ?_
      exact iterR_norm ⟨_, hR, (zer (zer (zer (zer zen)))), h253⟩
     ·
      replace hR := ifF hR hc250
      refine W.condF (congrArg Value.bool (decide_eq_false hc250)) ?_
      refine W.exit (thenR_exit (iterR_exit (blockR_here ?_)))
      exact ⟨m244, (hx246 _ hR).symm, (zer (zer zen)), h247⟩
    ·
     rintro ev254 wl254 ⟨y_m245, hy254, he254, h254⟩
     obtain ⟨ev254, rfl⟩ := he254.open
     subst hy254
     replace hR := hR0246
     refine k228 _ _ ?_; clear k228
     refine W.seq_k fun _ k255 => W.regionT [(0, true), (1, false)] (by kernel_rfl) ?_
     refine Plan.loadA1 h254 1 rfl rfl rfl FSha.agg94 ?_
     refine Plan.storeA (f' := fun q => VU .u32 (m245 q)) h254 0 rfl rfl rfl rfl (fun _ _ => rfl) FSha.sz94 rfl fun w256 h256 => ?_
     simp only [zca, zna, zsz, zss] at h256
     refine Plan.nil (k255 _ _ ?_); clear k255
     refine W.ret (finR_ret ?_)
     have h257 := St.pickT (C := [_, _]) h256 [] (by decide)
     simp only [pick, zfc, zfn, zgz, zgs, zca, zna] at h257
     subst r
     refine RetOk.mk (.agg h256 rfl (.cons 0 rfl .nil) FSha.agg94 .nil) ?_
     exact ⟨rfl, h257⟩
theorem sha_Hash_Write_ok {B : Nat} {w0 w : World} {L : List Rg} {iG1 : Nat} (hG1 : L[iG1]? = some ⟨some 1, 0, 64, fun q => VU .u32 (K256 q), false⟩) {bh_1 : Nat} {hstate2 : Nat → BitVec 32} {hblock3 : Nat → BitVec 8} {hn4 : Int} {b5 : List Byte} {ab5 : Option Addr} {nb5 cb5 ib5 : Nat} (hb5 : Bx L ib5 ab5 nb5 cb5 b5) {r : ((Nat → BitVec 32) × (Nat → BitVec 8) × Int)} (hR : sha_Hash_Write hstate2 hblock3 hn4 b5 r) (HST : St B w0 (⟨some bh_1, 0, 8, fun q => VU .u32 (hstate2 q), true⟩ :: ⟨some bh_1, 8, 64, fun q => VU .u8 (hblock3 q), true⟩ :: ⟨some bh_1, 72, 1, fun _ => .int .i64 hn4, true⟩ :: L) w) :
  Calls Tryd.prog 40 #[.pointer (some ⟨bh_1, 0, none⟩), .slice ab5 nb5 cb5] w fun e w' => e = .returned (.tuple #[]) ∧ St B w0 (⟨some bh_1, 0, 8, fun q => VU .u32 (r.1 q), true⟩ :: ⟨some bh_1, 8, 64, fun q => VU .u8 (r.2.1 q), true⟩ :: ⟨some bh_1, 72, 1, fun _ => .int .i64 r.2.2, true⟩ :: L) w' := by
 refine W.enter 48 Tryd.func40 rfl rfl rfl ?_
 unfold sha_Hash_Write at hR
 have eb5 := hb5.hl; subst eb5
 obtain ⟨m60, m61, m62, hI63, hR063⟩ := hR
 refine W.cutN (fun e w => ∃ y_m60 : Nat → BitVec 32, ∃ y_m61 : Nat → BitVec 8, ∃ y_m62 : Int, (m60, m61, m62) = (y_m60, y_m61, y_m62) ∧ EnvHas e [] ∧ St B w0 (⟨some bh_1, 0, 8, fun q => VU .u32 (y_m60 q), true⟩ :: ⟨some bh_1, 8, 64, fun q => VU .u8 (y_m61 q), true⟩ :: ⟨some bh_1, 72, 1, fun _ => .int .i64 y_m62, true⟩ :: L) w) ?_ ?_
 ·
  refine W.block ?_
  refine W.iter hI63 (fun (s63 : ((List Byte) × (Nat → BitVec 32) × (Nat → BitVec 8) × Int)) e w => ∃ ab56 : Option Addr, ∃ cb56 : Nat, EnvHas e [(0, .pointer (some ⟨bh_1, 0, none⟩)), (1, .slice ab56 s63.1.length cb56)] ∧ St B w0 (⟨some bh_1, 0, 8, fun q => VU .u32 (s63.2.1 q), true⟩ :: ⟨some bh_1, 8, 64, fun q => VU .u8 (s63.2.2.1 q), true⟩ :: ⟨some bh_1, 72, 1, fun _ => .int .i64 s63.2.2.2, true⟩ :: L) w ∧ Bx L ib5 ab56 s63.1.length cb56 s63.1) ⟨ab5, cb5, (zer (zer zen)), HST, hb5⟩ ?_
  rintro ⟨b56, m57, m58, m59⟩ o63 hR hx63 ev64 wl64 ⟨ab56, cb56, he64, h64, hb56⟩
  obtain ⟨ev64, rfl⟩ := he64.open
  unfold sha_Hash_Write_l0 at hR
  refine W.seq_k fun _ k65 => W.seq_k fun _ k66 => ?_
  refine W.regionT [(0, true), (1, true), (2, true)] (by kernel_rfl) ?_
  refine Plan.move_slice rfl rfl <| Plan.len FSha.isl24 rfl rfl <| Plan.cmpP (a := (((b56.length : Nat) : Int) : Int)) (b := (0 : Int)) (p := 0 < b56.length) rfl rfl rfl rfl icmp_gtN <| Plan.nil (k66 _ _ ?_); clear k66
  by_cases hc67 : 0 < b56.length
  ·
   replace hR := ifT hR hc67
   refine W.condT (congrArg Value.bool (decide_eq_true hc67)) ?_
   refine W.skip ?_
   refine k65 _ _ ?_; clear k65
   refine W.block ?_
   refine W.seq_k fun _ k68 => ?_
   refine W.regionD FSha.mixed [(0, true), (1, true), (2, true), (3, true), (4, true), (5, true), (6, true), (7, true), (8, true), (9, true), (10, false), (11, true)] (by kernel_rfl) ?_
   have h69 := h64.drew
   refine Plan.move_ptr rfl rfl <| Plan.nilCheck rfl rfl <| Plan.fieldAddr 8 FSha.fld97_1 rfl rfl <| Plan.move_ptr rfl rfl <| Plan.nilCheck rfl rfl <| Plan.fieldAddr 72 FSha.fld97_2 rfl rfl <| Plan.load0 h69 2 rfl rfl rfl (by omega) FSha.sc3 ?_
   have hb70 := tmod_bd m59 (c := 64) (by decide)
   refine Plan.remI (a := m59) (b := 64) rfl rfl rfl (by omega) ?_
   obtain ⟨hc71, hR⟩ := hR
   obtain ⟨hc72, hR⟩ := hR
   refine Plan.slArrO (lo := (m59.tmod 64).toNat) (hi := 64) (m := (64 - (m59.tmod 64).toNat)) (c := (64 - (m59.tmod 64).toNat)) (o' := 8 + ((m59.tmod 64).toNat)) FSha.arr95 rfl rfl ⟨_, congrArg (Value.int .i64) (Int.toNat_of_nonneg hc71).symm⟩ rfl (by omega) (by omega) (by omega) (by omega) <| Plan.move_slice rfl rfl ?_
   refine Plan.copyB (jd := (m59.tmod 64).toNat) (X := b56) h69 1 (min b56.length (64 - (m59.tmod 64).toNat)) FSha.sl24 rfl rfl rfl rfl ((hb56.app [_, _, _]).bs' 1 rfl) (fun _ => ⟨_, rfl, rfl⟩) rfl rfl (by omega) (EffO.keep (PIn.cons 2 rfl PIn.nil)) fun w73 h73 => ?_
   simp only [zca, zna, zsz, zss] at h73
   refine Plan.assign_int rfl rfl <| Plan.nil (k68 _ _ ?_); clear k68
   refine W.seq_k fun _ k74 => W.regionT [(0, true), (1, true), (2, true), (3, true)] (by kernel_rfl) ?_
   refine Plan.move_slice rfl rfl <| Plan.move_int rfl rfl ?_
   obtain ⟨hc75, hR⟩ := hR
   refine Plan.slV (lo := (min b56.length (64 - (m59.tmod 64).toNat))) (hi := b56.length) hb56 FSha.sl24 rfl rfl ⟨_, rfl⟩ rfl hc75 fun a76 c76 hv76 => ?_
   refine Plan.assign_slice rfl rfl <| Plan.nil (k74 _ _ ?_); clear k74
   refine W.seq_k fun _ k77 => W.regionT [(0, true), (1, true), (2, true), (3, true), (4, true), (5, true), (6, true), (7, true), (8, false)] (by kernel_rfl) ?_
   refine Plan.move_ptr rfl rfl <| Plan.nilCheck rfl rfl <| Plan.fieldAddr 72 FSha.fld97_2 rfl rfl <| Plan.load0 h73 2 rfl rfl rfl (by omega) FSha.sc3 <| Plan.move_int rfl rfl ?_
   obtain ⟨hc78, hR⟩ := hR
   refine Plan.addI (a := m59) (b := (((min b56.length (64 - (m59.tmod 64).toNat)) : Nat) : Int)) rfl rfl rfl (by omega) <| Plan.nilCheck rfl rfl <| Plan.fieldAddr 72 FSha.fld97_2 rfl rfl ?_
   refine Plan.storeC_int h73 2 rfl rfl rfl rfl FSha.sz3 rfl fun w79 h79 => ?_
   simp only [zca, zna, zsz, zss] at h79
   refine Plan.nil (k77 _ _ ?_); clear k77
   refine W.seq_k fun _ k80 => W.regionT [(0, true), (1, true), (2, true), (3, true), (4, true), (5, true)] (by kernel_rfl) ?_
   refine Plan.move_ptr rfl rfl <| Plan.nilCheck rfl rfl <| Plan.fieldAddr 72 FSha.fld97_2 rfl rfl <| Plan.load0 h79 2 rfl rfl rfl (by omega) FSha.sc3 ?_
   have hb81 := tmod_bd (m59 + (((min b56.length (64 - (m59.tmod 64).toNat)) : Nat) : Int)) (c := 64) (by decide)
   refine Plan.remI (a := (m59 + (((min b56.length (64 - (m59.tmod 64).toNat)) : Nat) : Int))) (b := 64) rfl rfl rfl (by omega) <| Plan.cmpP (a := (((m59 + (((min b56.length (64 - (m59.tmod 64).toNat)) : Nat) : Int)).tmod 64) : Int)) (b := (0 : Int)) (p := ((m59 + (((min b56.length (64 - (m59.tmod 64).toNat)) : Nat) : Int)).tmod 64) = 0) rfl rfl rfl rfl icmp_eq <| Plan.nil (k80 _ _ ?_); clear k80
   by_cases hc82 : ((m59 + (((min b56.length (64 - (m59.tmod 64).toNat)) : Nat) : Int)).tmod 64) = 0
   ·
    replace hR := ifT hR hc82
    refine W.condT (congrArg Value.bool (decide_eq_true hc82)) ?_
    refine W.regionD FSha.mixed [(0, true), (1, true), (2, true), (3, true), (4, true), (5, true), (6, true), (7, true), (8, true), (9, false), (10, true), (11, true), (12, false)] (by kernel_rfl) ?_
    have h83 := h79.drew
    refine Plan.move_ptr rfl rfl <| Plan.move_ptr rfl rfl <| Plan.nilCheck rfl rfl <| Plan.fieldAddr0 FSha.fld97_0 rfl rfl <| Plan.loadA1 h83 0 rfl rfl rfl FSha.agg94 <| Plan.move_ptr rfl rfl <| Plan.nilCheck rfl rfl <| Plan.fieldAddr 8 FSha.fld97_1 rfl rfl ?_
    refine Plan.loadA1 h83 1 rfl rfl rfl FSha.agg95 ?_
    obtain ⟨x_85, hr84, hR⟩ := hR
    refine Plan.call (vs := [AG [(8, fun q => VU .u32 (m57 q))], AG [(64, fun q => VU .u8 ((spl m58 ((m59.tmod 64).toNat) (min b56.length (64 - (m59.tmod 64).toNat)) (lit b56)) q))]]) rfl FSha.call53 rfl (sha_Compress_ok (iG1 := iG1 + 3) hG1 hr84 h83) ?_
    rintro _ w86 ⟨rfl, h86⟩
    refine ⟨_, rfl, .inr ⟨rfl, ?_⟩⟩
    refine Plan.nilCheck rfl rfl <| Plan.fieldAddr0 FSha.fld97_0 rfl rfl ?_
    refine Plan.storeA (f' := fun q => VU .u32 (x_85 q)) h86 0 rfl rfl rfl rfl (fun _ _ => rfl) FSha.sz94 rfl fun w87 h87 => ?_
    simp only [zca, zna, zsz, zss] at h87
    refine Plan.nil ?_
    refine blockR_norm ?_
    exact iterR_norm ⟨_, hR, a76, c76, (zer (zer zen)), h87, hv76⟩
   ·
    replace hR := ifF hR hc82
    refine W.condF (congrArg Value.bool (decide_eq_false hc82)) ?_
    refine W.skip ?_
    refine blockR_norm ?_
    exact iterR_norm ⟨_, hR, a76, c76, (zer (zer zen)), h79, hv76⟩
  ·
   replace hR := ifF hR hc67
   refine W.condF (congrArg Value.bool (decide_eq_false hc67)) ?_
   refine W.exit (thenR_exit (iterR_exit (blockR_here ?_)))
   exact ⟨m57, m58, m59, (hx63 _ hR).symm, zen, h64⟩
 ·
  rintro ev88 wl88 ⟨y_m60, y_m61, y_m62, hy88, he88, h88⟩
  obtain ⟨ev88, rfl⟩ := he88.open
  cases hy88
  replace hR := hR063
  refine finR_norm ?_
  subst r
  refine RetOk.mk .nil ?_
  exact ⟨rfl, h88⟩
theorem sha_Hash_Copy_ok {B : Nat} {w0 w : World} {L : List Rg} {bh_1 : Nat} {hstate2 : Nat → BitVec 32} {hblock3 : Nat → BitVec 8} {hn4 : Int} {r : ((Nat → BitVec 32) × (Nat → BitVec 8) × Int)} (hR : sha_Hash_Copy hstate2 hblock3 hn4 r) (HST : St B w0 (⟨some bh_1, 0, 8, fun q => VU .u32 (hstate2 q), true⟩ :: ⟨some bh_1, 8, 64, fun q => VU .u8 (hblock3 q), true⟩ :: ⟨some bh_1, 72, 1, fun _ => .int .i64 hn4, true⟩ :: L) w) :
  Calls Tryd.prog 54 #[.pointer (some ⟨bh_1, 0, none⟩)] w fun e w' => ∃ b0 : Nat, e = .returned (.pointer (some ⟨b0, 0, none⟩)) ∧ St B w0 (⟨some b0, 0, 8, fun q => VU .u32 (r.1 q), true⟩ :: ⟨some b0, 8, 64, fun q => VU .u8 (r.2.1 q), true⟩ :: ⟨some b0, 72, 1, fun _ => .int .i64 r.2.2, true⟩ :: ⟨some bh_1, 0, 8, fun q => VU .u32 (hstate2 q), true⟩ :: ⟨some bh_1, 8, 64, fun q => VU .u8 (hblock3 q), true⟩ :: ⟨some bh_1, 72, 1, fun _ => .int .i64 hn4, true⟩ :: L) w' := by
 refine W.enter 7 Tryd.func54 rfl rfl rfl ?_
 unfold sha_Hash_Copy at hR
 refine W.seq_k fun _ k5 => W.regionT [(0, true)] (by kernel_rfl) ?_
 refine Plan.assign_ptr rfl rfl <| Plan.nil (k5 _ _ ?_); clear k5
 refine W.seq_k fun _ k6 => W.regionT [(0, true), (1, true), (2, true), (3, false), (4, false)] (by kernel_rfl) ?_
 refine Plan.move_ptr rfl rfl <| Plan.nilCheck rfl rfl <| Plan.loadA HST rfl rfl (.cons 0 rfl (.cons 1 rfl (.cons 2 rfl .nil))) FSha.agg97 ?_
 refine Plan.alloc HST rfl FSha.z97 (PIn.parts (.cons 0 rfl (.cons 1 rfl (.cons 2 rfl .nil))) PIn.nil) fun b7 w7 hb7 h7 => ?_
 simp only [rngs, Nat.zero_add, Nat.reduceAdd, zca, zna] at h7
 refine Plan.storeP (ps := [(8, fun q => VU .u32 (hstate2 q)), (64, fun q => VU .u8 (hblock3 q)), (1, fun _ => .int .i64 hn4)]) h7 rfl rfl rfl (.cons 0 rfl (.cons 1 rfl (.cons 2 rfl .nil))) ⟨fun _ _ => rfl, fun _ _ => rfl, fun _ _ => rfl, trivial⟩ FSha.sz97 (EffO.wait rfl) fun w8 h8 => ?_
 simp only [zca, zna, zsz, zss] at h8
 refine Plan.nil (k6 _ _ ?_); clear k6
 refine W.seq_k fun _ k9 => W.regionT [(0, true)] (by kernel_rfl) ?_
 refine Plan.assign_ptr rfl rfl <| Plan.nil (k9 _ _ ?_); clear k9
 refine W.ret (finR_ret ?_)
 subst r
 refine RetOk.mk (.tmp_ptr rfl .nil) ?_
 exact ⟨b7, rfl, h8⟩
theorem sha_Hash_Sum_ok {B : Nat} {w0 w : World} {L : List Rg} {iG1 : Nat} (hG1 : L[iG1]? = some ⟨some 1, 0, 64, fun q => VU .u32 (K256 q), false⟩) {bh_1 : Nat} {hstate2 : Nat → BitVec 32} {hblock3 : Nat → BitVec 8} {hn4 : Int} {r : (Nat → BitVec 8)} (hR : sha_Hash_Sum hstate2 hblock3 hn4 r) (HST : St B w0 (⟨some bh_1, 0, 8, fun q => VU .u32 (hstate2 q), true⟩ :: ⟨some bh_1, 8, 64, fun q => VU .u8 (hblock3 q), true⟩ :: ⟨some bh_1, 72, 1, fun _ => .int .i64 hn4, true⟩ :: L) w) :
  Calls Tryd.prog 42 #[.pointer (some ⟨bh_1, 0, none⟩)] w fun e w' => e = .returned (AG [(32, fun q => VU .u8 (r q))]) ∧ St B w0 (⟨some bh_1, 0, 8, fun q => VU .u32 (hstate2 q), true⟩ :: ⟨some bh_1, 8, 64, fun q => VU .u8 (hblock3 q), true⟩ :: ⟨some bh_1, 72, 1, fun _ => .int .i64 hn4, true⟩ :: L) w' := by
 refine W.enter 78 Tryd.func42 rfl rfl rfl ?_
 unfold sha_Hash_Sum at hR
 refine W.seq_k fun _ k5 => W.regionT [(0, false)] (by kernel_rfl) ?_
 refine Plan.alloc HST rfl FSha.z58 PIn.nil fun b6 w6 hb6 h6 => ?_
 simp only [rngs, Nat.zero_add, Nat.reduceAdd, zca, zna] at h6
 refine Plan.nil (k5 _ _ ?_); clear k5
 refine W.seq_k fun _ k7 => W.regionT [(0, true), (1, false), (2, true)] (by kernel_rfl) ?_
 refine Plan.move_ptr rfl rfl ?_
 have h8 := St.pickT (C := [_, _, _, _]) h6 [1, 2, 3, 0] (by decide)
 simp only [pick, zfc, zfn, zgz, zgs, zca, zna] at h8
 obtain ⟨x_10, x_11, x_12, hr9, hR⟩ := hR
 refine Plan.call (vs := [.pointer (some ⟨bh_1, 0, none⟩)]) rfl FSha.call54 rfl (sha_Hash_Copy_ok  hr9 h8) ?_
 rintro _ w14 ⟨b0_13, rfl, h14⟩
 refine ⟨_, rfl, .inl ⟨PIn.keep PIn.nil h14, ?_⟩⟩
 refine Plan.assign_ptr rfl rfl <| Plan.nil (k7 _ _ ?_); clear k7
 refine W.seq_k fun _ k15 => W.regionT [(0, true), (1, true), (2, true), (3, true), (4, true), (5, true), (6, true)] (by kernel_rfl) ?_
 refine Plan.move_ptr rfl rfl <| Plan.nilCheck rfl rfl <| Plan.fieldAddr 72 FSha.fld97_2 rfl rfl <| Plan.load0 h14 5 rfl rfl rfl (by omega) FSha.sc3 <| Plan.convIU .u64 (a := hn4) FSha.u73 FSha.some3 rfl rfl <| Plan.mulU .u64 (X := 8#64) (Y := (BitVec.ofInt 64 hn4)) rfl rfl rfl <| Plan.assign_int rfl rfl <| Plan.nil (k15 _ _ ?_); clear k15
 refine W.seq_k fun _ k16 => W.regionT [(0, true), (1, false), (2, false)] (by kernel_rfl) ?_
 refine Plan.move_ptr rfl rfl ?_
 refine Plan.buildSlice h14 (ps := [(1, fun q => VU .u8 (lit ([128#8] : List Byte) q))]) FSha.slu24 FSha.sz5 FSha.zv5 (by decide) (by decide) rfl rfl (by kernel_rfl) (EffO.keep PIn.nil) fun b17 w17 hb17 h17 => ?_
 simp only [rngs, List.cons_append, List.nil_append] at h17
 have ho17 : Ow (some ⟨b17, 0, none⟩) (some b17) ([128#8] : List Byte).length 1 (lit ([128#8] : List Byte)) ([128#8] : List Byte) := ⟨.inr ⟨b17, rfl, rfl⟩, Nat.le_refl _, rfl, fun q _ => rfl⟩
 have h18 := St.pickT (C := [_, _, _, _, _, _, _, _]) h17 [1, 2, 3, 0, 4, 5, 6, 7] (by decide)
 simp only [pick, zfc, zfn, zgz, zgs, zca, zna] at h18
 obtain ⟨x_20, x_21, x_22, hr19, hR⟩ := hR
 refine Plan.call (vs := [.pointer (some ⟨b0_13, 0, none⟩), .slice (some ⟨b17, 0, none⟩) (([128#8] : List Byte).length) 1]) rfl FSha.call40 rfl (sha_Hash_Write_ok (iG1 := iG1 + 5) hG1 (by exact (ho17.bx 0 rfl)) hr19 h18) ?_
 rintro _ w23 ⟨rfl, h23⟩
 refine ⟨_, rfl, .inl ⟨PIn.keep PIn.nil h23, ?_⟩⟩
 refine Plan.nil (k16 _ _ ?_); clear k16
 refine W.seq_k fun _ k24 => ?_
 obtain ⟨m53, m54, m55, hI56, hR056⟩ := hR
 refine W.cutN (fun e w => ∃ y_m53 : Nat → BitVec 32, ∃ y_m54 : Nat → BitVec 8, ∃ y_m55 : Int, (m53, m54, m55) = (y_m53, y_m54, y_m55) ∧ EnvHas e [(2, .pointer (some ⟨b6, 0, none⟩)), (3, .pointer (some ⟨b0_13, 0, none⟩)), (4, VU .u64 ((8#64) * (BitVec.ofInt 64 hn4)))] ∧ St B w0 (⟨some b0_13, 0, 8, fun q => VU .u32 (y_m53 q), true⟩ :: ⟨some b0_13, 8, 64, fun q => VU .u8 (y_m54 q), true⟩ :: ⟨some b0_13, 72, 1, fun _ => .int .i64 y_m55, true⟩ :: ⟨some bh_1, 0, 8, fun q => VU .u32 (hstate2 q), true⟩ :: ⟨some bh_1, 8, 64, fun q => VU .u8 (hblock3 q), true⟩ :: ⟨some bh_1, 72, 1, fun _ => .int .i64 hn4, true⟩ :: ⟨some b6, 0, 32, fun q => VU .u8 ((fun _ => 0#8) q), true⟩ :: L) w) ?_ ?_
 ·
  refine W.block ?_
  have h57 := St.pickT (C := [_, _, _, _, _, _, _, _]) h23 [0, 1, 2, 4, 5, 6, 7] (by decide)
  simp only [pick, zfc, zfn, zgz, zgs, zca, zna] at h57
  refine W.iter hI56 (fun (s56 : ((Nat → BitVec 32) × (Nat → BitVec 8) × Int)) e w => EnvHas e [(2, .pointer (some ⟨b6, 0, none⟩)), (3, .pointer (some ⟨b0_13, 0, none⟩)), (4, VU .u64 ((8#64) * (BitVec.ofInt 64 hn4)))] ∧ St B w0 (⟨some b0_13, 0, 8, fun q => VU .u32 (s56.1 q), true⟩ :: ⟨some b0_13, 8, 64, fun q => VU .u8 (s56.2.1 q), true⟩ :: ⟨some b0_13, 72, 1, fun _ => .int .i64 s56.2.2, true⟩ :: ⟨some bh_1, 0, 8, fun q => VU .u32 (hstate2 q), true⟩ :: ⟨some bh_1, 8, 64, fun q => VU .u8 (hblock3 q), true⟩ :: ⟨some bh_1, 72, 1, fun _ => .int .i64 hn4, true⟩ :: ⟨some b6, 0, 32, fun q => VU .u8 ((fun _ => 0#8) q), true⟩ :: L) w) ⟨(zer (zer (zer zen))), h57⟩ ?_
  rintro ⟨m50, m51, m52⟩ o56 hR hx56 ev58 wl58 ⟨he58, h58⟩
  obtain ⟨ev58, rfl⟩ := he58.open
  unfold sha_Hash_Sum_l0 at hR
  refine W.seq_k fun _ k59 => W.seq_k fun _ k60 => ?_
  refine W.regionT [(0, true), (1, true), (2, true), (3, true), (4, true), (5, true)] (by kernel_rfl) ?_
  refine Plan.move_ptr rfl rfl <| Plan.nilCheck rfl rfl <| Plan.fieldAddr 72 FSha.fld97_2 rfl rfl <| Plan.load0 h58 2 rfl rfl rfl (by omega) FSha.sc3 ?_
  have hb61 := tmod_bd m52 (c := 64) (by decide)
  refine Plan.remI (a := m52) (b := 64) rfl rfl rfl (by omega) <| Plan.cmpP (a := ((m52.tmod 64) : Int)) (b := (56 : Int)) (p := (m52.tmod 64) ≠ 56) rfl rfl rfl rfl icmp_ne <| Plan.nil (k60 _ _ ?_); clear k60
  by_cases hc62 : (m52.tmod 64) ≠ 56
  ·
   replace hR := ifT hR hc62
   refine W.condT (congrArg Value.bool (decide_eq_true hc62)) ?_
   refine W.skip ?_
   refine k59 _ _ ?_; clear k59
   refine W.block ?_
   refine W.regionT [(0, true), (1, false), (2, false)] (by kernel_rfl) ?_
   refine Plan.move_ptr rfl rfl ?_
   refine Plan.buildSlice h58 (ps := [(1, fun q => VU .u8 (lit ([0#8] : List Byte) q))]) FSha.slu24 FSha.sz5 FSha.zv5 (by decide) (by decide) rfl rfl (by kernel_rfl) (EffO.keep PIn.nil) fun b63 w63 hb63 h63 => ?_
   simp only [rngs, List.cons_append, List.nil_append] at h63
   have ho63 : Ow (some ⟨b63, 0, none⟩) (some b63) ([0#8] : List Byte).length 1 (lit ([0#8] : List Byte)) ([0#8] : List Byte) := ⟨.inr ⟨b63, rfl, rfl⟩, Nat.le_refl _, rfl, fun q _ => rfl⟩
   have h64 := St.pickT (C := [_, _, _, _, _, _, _, _]) h63 [1, 2, 3, 0, 4, 5, 6, 7] (by decide)
   simp only [pick, zfc, zfn, zgz, zgs, zca, zna] at h64
   obtain ⟨x_66, x_67, x_68, hr65, hR⟩ := hR
   refine Plan.call (vs := [.pointer (some ⟨b0_13, 0, none⟩), .slice (some ⟨b63, 0, none⟩) (([0#8] : List Byte).length) 1]) rfl FSha.call40 rfl (sha_Hash_Write_ok (iG1 := iG1 + 5) hG1 (by exact (ho63.bx 0 rfl)) hr65 h64) ?_
   rintro _ w69 ⟨rfl, h69⟩
   refine ⟨_, rfl, .inl ⟨PIn.keep PIn.nil h69, ?_⟩⟩
   refine Plan.nil ?_
   refine blockR_norm ?_
   have h70 := St.pickT (C := [_, _, _, _, _, _, _, _]) h69 [0, 1, 2, 4, 5, 6, 7] (by decide)
   simp only [pick, zfc, zfn, zgz, zgs, zca, zna] at h70
   exact iterR_norm ⟨_, hR, (zer (zer (zer zen))), h70⟩
  ·
   replace hR := ifF hR hc62
   refine W.condF (congrArg Value.bool (decide_eq_false hc62)) ?_
   refine W.exit (thenR_exit (iterR_exit (blockR_here ?_)))
   exact ⟨m50, m51, m52, (hx56 _ hR).symm, (zer (zer (zer zen))), h58⟩
 ·
  rintro ev71 wl71 ⟨y_m53, y_m54, y_m55, hy71, he71, h71⟩
  obtain ⟨ev71, rfl⟩ := he71.open
  cases hy71
  replace hR := hR056
  refine k24 _ _ ?_; clear k24
  refine W.seq_k fun _ k72 => W.seq_k fun _ k73 => ?_
  refine W.regionT [(0, true)] (by kernel_rfl) ?_
  refine Plan.move_int rfl rfl <| Plan.nil (k73 _ _ ?_); clear k73
  obtain ⟨m105, m106, m107, hI108, hR0108⟩ := hR
  refine W.cutN (fun e w => ∃ y_m105 : Nat → BitVec 32, ∃ y_m106 : Nat → BitVec 8, ∃ y_m107 : Int, (m105, m106, m107) = (y_m105, y_m106, y_m107) ∧ EnvHas e [(2, .pointer (some ⟨b6, 0, none⟩)), (3, .pointer (some ⟨b0_13, 0, none⟩))] ∧ St B w0 (⟨some b0_13, 0, 8, fun q => VU .u32 (y_m105 q), true⟩ :: ⟨some b0_13, 8, 64, fun q => VU .u8 (y_m106 q), true⟩ :: ⟨some b0_13, 72, 1, fun _ => .int .i64 y_m107, true⟩ :: ⟨some bh_1, 0, 8, fun q => VU .u32 (hstate2 q), true⟩ :: ⟨some bh_1, 8, 64, fun q => VU .u8 (hblock3 q), true⟩ :: ⟨some bh_1, 72, 1, fun _ => .int .i64 hn4, true⟩ :: ⟨some b6, 0, 32, fun q => VU .u8 ((fun _ => 0#8) q), true⟩ :: L) w) ?_ ?_
  ·
   refine W.block ?_
   refine W.iter hI108 (fun (s108 : (Nat × (Nat → BitVec 32) × (Nat → BitVec 8) × Int)) e w => EnvHas e [(2, .pointer (some ⟨b6, 0, none⟩)), (3, .pointer (some ⟨b0_13, 0, none⟩)), (4, VU .u64 ((8#64) * (BitVec.ofInt 64 hn4))), (29, VN s108.1)] ∧ St B w0 (⟨some b0_13, 0, 8, fun q => VU .u32 (s108.2.1 q), true⟩ :: ⟨some b0_13, 8, 64, fun q => VU .u8 (s108.2.2.1 q), true⟩ :: ⟨some b0_13, 72, 1, fun _ => .int .i64 s108.2.2.2, true⟩ :: ⟨some bh_1, 0, 8, fun q => VU .u32 (hstate2 q), true⟩ :: ⟨some bh_1, 8, 64, fun q => VU .u8 (hblock3 q), true⟩ :: ⟨some bh_1, 72, 1, fun _ => .int .i64 hn4, true⟩ :: ⟨some b6, 0, 32, fun q => VU .u8 ((fun _ => 0#8) q), true⟩ :: L) w) ⟨(zer (zer (zer (zer zen)))), h71⟩ ?_
   rintro ⟨t101, m102, m103, m104⟩ o108 hR hx108 ev109 wl109 ⟨he109, h109⟩
   obtain ⟨ev109, rfl⟩ := he109.open
   unfold sha_Hash_Sum_l1 at hR
   refine W.seq_k fun _ k110 => W.regionT [(0, true)] (by kernel_rfl) ?_
   refine Plan.cmpP (a := (((t101 : Nat) : Int) : Int)) (b := (8 : Int)) (p := t101 < 8) rfl rfl rfl rfl icmp_ltN <| Plan.nil (k110 _ _ ?_); clear k110
   refine W.seq_k fun _ k111 => ?_
   by_cases hc112 : t101 < 8
   ·
    replace hR := ifT hR hc112
    refine W.condT (congrArg Value.bool (decide_eq_true hc112)) ?_
    refine W.skip ?_
    refine k111 _ _ ?_; clear k111
    refine W.seq_k fun _ k113 => ?_
    refine W.block ?_
    refine W.seq_k fun _ k114 => W.regionT [(0, true), (1, true)] (by kernel_rfl) ?_
    refine Plan.move_int rfl rfl <| Plan.assign_int rfl rfl <| Plan.nil (k114 _ _ ?_); clear k114
    refine W.regionT [(0, true), (1, true), (2, true), (3, true), (4, true), (5, true), (6, true), (7, false), (8, false)] (by kernel_rfl) ?_
    refine Plan.move_ptr rfl rfl <| Plan.move_int rfl rfl <| Plan.move_int rfl rfl <| Plan.mulN (a := 8) (b := t101) rfl rfl rfl (by omega) <| Plan.subN (a := 56) (b := (8 * t101)) rfl rfl rfl (by omega) <| Plan.shrU .u64 (X := ((8#64) * (BitVec.ofInt 64 hn4))) (c := (56 - (8 * t101))) rfl rfl rfl <| Plan.convUU .u8 (X := (((8#64) * (BitVec.ofInt 64 hn4)) >>> (56 - (8 * t101)))) FSha.u5 FSha.some73 rfl rfl ?_
    refine Plan.buildSlice h109 (ps := [(1, fun q => VU .u8 (lit ([((((8#64) * (BitVec.ofInt 64 hn4)) >>> (56 - (8 * t101))).setWidth 8)] : List Byte) q))]) FSha.slu24 FSha.sz5 FSha.zv5 (by decide) (by decide) rfl rfl rfl (EffO.keep PIn.nil) fun b115 w115 hb115 h115 => ?_
    simp only [rngs, List.cons_append, List.nil_append] at h115
    have ho115 : Ow (some ⟨b115, 0, none⟩) (some b115) ([((((8#64) * (BitVec.ofInt 64 hn4)) >>> (56 - (8 * t101))).setWidth 8)] : List Byte).length 1 (lit ([((((8#64) * (BitVec.ofInt 64 hn4)) >>> (56 - (8 * t101))).setWidth 8)] : List Byte)) ([((((8#64) * (BitVec.ofInt 64 hn4)) >>> (56 - (8 * t101))).setWidth 8)] : List Byte) := ⟨.inr ⟨b115, rfl, rfl⟩, Nat.le_refl _, rfl, fun q _ => rfl⟩
    have h116 := St.pickT (C := [_, _, _, _, _, _, _, _]) h115 [1, 2, 3, 0, 4, 5, 6, 7] (by decide)
    simp only [pick, zfc, zfn, zgz, zgs, zca, zna] at h116
    obtain ⟨x_118, x_119, x_120, hr117, hR⟩ := hR
    refine Plan.call (vs := [.pointer (some ⟨b0_13, 0, none⟩), .slice (some ⟨b115, 0, none⟩) (([((((8#64) * (BitVec.ofInt 64 hn4)) >>> (56 - (8 * t101))).setWidth 8)] : List Byte).length) 1]) rfl FSha.call40 rfl (sha_Hash_Write_ok (iG1 := iG1 + 5) hG1 (by exact (ho115.bx 0 rfl)) hr117 h116) ?_
    rintro _ w121 ⟨rfl, h121⟩
    refine ⟨_, rfl, .inl ⟨PIn.keep PIn.nil h121, ?_⟩⟩
    refine Plan.nil ?_
    refine blockR_norm ?_
    refine k113 _ _ ?_; clear k113
    refine W.regionT [(0, true), (1, true)] (by kernel_rfl) ?_
    refine Plan.addN (a := t101) (b := 1) rfl rfl rfl (by omega) <| Plan.move_int rfl rfl <| Plan.nil ?_
    have h122 := St.pickT (C := [_, _, _, _, _, _, _, _]) h121 [0, 1, 2, 4, 5, 6, 7] (by decide)
    simp only [pick, zfc, zfn, zgz, zgs, zca, zna] at h122
    exact iterR_norm ⟨_, hR, (zer (zer (zer (zer zen)))), h122⟩
   ·
    replace hR := ifF hR hc112
    refine W.condF (congrArg Value.bool (decide_eq_false hc112)) ?_
    refine W.exit (thenR_exit (iterR_exit (blockR_here ?_)))
    exact ⟨m102, m103, m104, (hx108 _ hR).symm, (zer (zer zen)), h109⟩
  ·
   rintro ev123 wl123 ⟨y_m105, y_m106, y_m107, hy123, he123, h123⟩
   obtain ⟨ev123, rfl⟩ := he123.open
   cases hy123
   replace hR := hR0108
   refine k72 _ _ ?_; clear k72
   refine W.seq_k fun _ k124 => W.regionT [(0, false)] (by kernel_rfl) ?_
   refine Plan.alloc h123 rfl FSha.z58 PIn.nil fun b125 w125 hb125 h125 => ?_
   simp only [rngs, Nat.zero_add, Nat.reduceAdd, zca, zna] at h125
   refine Plan.nil (k124 _ _ ?_); clear k124
   refine W.seq_k fun _ k126 => W.seq_k fun _ k127 => ?_
   refine W.regionT [(0, true), (1, true), (2, true), (3, true), (4, true)] (by kernel_rfl) ?_
   refine Plan.move_ptr rfl rfl <| Plan.nilCheck rfl rfl <| Plan.fieldAddr0 FSha.fld97_0 rfl rfl <| Plan.loadA1 h125 1 rfl rfl rfl FSha.agg94 <| Plan.move_int rfl rfl <| Plan.nil (k127 _ _ ?_); clear k127
   obtain ⟨m149, hI150, hR0150⟩ := hR
   refine W.cutN (fun e w => ∃ y_m149 : Nat → BitVec 8, m149 = y_m149 ∧ EnvHas e [(2, .pointer (some ⟨b6, 0, none⟩)), (6, .pointer (some ⟨b125, 0, none⟩))] ∧ St B w0 (⟨some b125, 0, 32, fun q => VU .u8 (y_m149 q), true⟩ :: ⟨some bh_1, 0, 8, fun q => VU .u32 (hstate2 q), true⟩ :: ⟨some bh_1, 8, 64, fun q => VU .u8 (hblock3 q), true⟩ :: ⟨some bh_1, 72, 1, fun _ => .int .i64 hn4, true⟩ :: ⟨some b6, 0, 32, fun q => VU .u8 ((fun _ => 0#8) q), true⟩ :: L) w) ?_ ?_
   ·
    refine W.block ?_
    have h151 := St.pickT (C := [_, _, _, _, _, _, _, _]) h125 [0, 4, 5, 6, 7] (by decide)
    simp only [pick, zfc, zfn, zgz, zgs, zca, zna] at h151
    refine W.iter hI150 (fun (s150 : (Nat × (Nat → BitVec 8))) e w => EnvHas e [(2, .pointer (some ⟨b6, 0, none⟩)), (6, .pointer (some ⟨b125, 0, none⟩)), (45, AG [(8, fun q => VU .u32 (m105 q))]), (46, VN s150.1)] ∧ St B w0 (⟨some b125, 0, 32, fun q => VU .u8 (s150.2 q), true⟩ :: ⟨some bh_1, 0, 8, fun q => VU .u32 (hstate2 q), true⟩ :: ⟨some bh_1, 8, 64, fun q => VU .u8 (hblock3 q), true⟩ :: ⟨some bh_1, 72, 1, fun _ => .int .i64 hn4, true⟩ :: ⟨some b6, 0, 32, fun q => VU .u8 ((fun _ => 0#8) q), true⟩ :: L) w) ⟨(zer (zer (zer (zer zen)))), h151⟩ ?_
    rintro ⟨t147, m148⟩ o150 hR hx150 ev152 wl152 ⟨he152, h152⟩
    obtain ⟨ev152, rfl⟩ := he152.open
    unfold sha_Hash_Sum_l2 at hR
    refine W.seq_k fun _ k153 => W.regionT [(0, true)] (by kernel_rfl) ?_
    refine Plan.cmpP (a := (((t147 : Nat) : Int) : Int)) (b := (8 : Int)) (p := t147 < 8) rfl rfl rfl rfl icmp_ltN <| Plan.nil (k153 _ _ ?_); clear k153
    refine W.seq_k fun _ k154 => ?_
    by_cases hc155 : t147 < 8
    ·
     replace hR := ifT hR hc155
     refine W.condT (congrArg Value.bool (decide_eq_true hc155)) ?_
     refine W.skip ?_
     refine k154 _ _ ?_; clear k154
     refine W.seq_k fun _ k156 => ?_
     refine W.block ?_
     refine W.seq_k fun _ k157 => W.regionT [(0, true), (1, true), (2, true), (3, true)] (by kernel_rfl) ?_
     refine Plan.move_int rfl rfl <| Plan.indexA (j := t147) FSha.isarr94 FSha.sz93 FSha.sc93 rfl rfl rfl (by omega) (by decide) <| Plan.assign_int rfl rfl <| Plan.assign_int rfl rfl <| Plan.nil (k157 _ _ ?_); clear k157
     refine W.regionT [(0, true), (1, true), (2, true), (3, true), (4, true), (5, true), (6, true), (7, true), (8, true), (9, true), (10, true), (11, true), (12, true), (13, true), (14, true), (15, true), (16, true), (17, true), (18, true), (19, true), (20, true), (21, true), (22, true), (23, false), (24, true), (25, false), (26, true), (27, false), (28, true), (29, false)] (by kernel_rfl) ?_
     refine Plan.move_int rfl rfl <| Plan.mulN (a := 4) (b := t147) rfl rfl rfl (by omega) <| Plan.move_int rfl rfl <| Plan.mulN (a := 4) (b := t147) rfl rfl rfl (by omega) <| Plan.addN (a := (4 * t147)) (b := 1) rfl rfl rfl (by omega) <| Plan.move_int rfl rfl <| Plan.mulN (a := 4) (b := t147) rfl rfl rfl (by omega) <| Plan.addN (a := (4 * t147)) (b := 2) rfl rfl rfl (by omega) ?_
     refine Plan.move_int rfl rfl <| Plan.mulN (a := 4) (b := t147) rfl rfl rfl (by omega) <| Plan.addN (a := (4 * t147)) (b := 3) rfl rfl rfl (by omega) <| Plan.move_int rfl rfl <| Plan.shrU .u32 (X := (m105 t147)) (c := 24) rfl rfl rfl <| Plan.convUU .u8 (X := ((m105 t147) >>> 24)) FSha.u5 FSha.some93 rfl rfl <| Plan.move_int rfl rfl <| Plan.shrU .u32 (X := (m105 t147)) (c := 16) rfl rfl rfl ?_
     refine Plan.convUU .u8 (X := ((m105 t147) >>> 16)) FSha.u5 FSha.some93 rfl rfl <| Plan.move_int rfl rfl <| Plan.shrU .u32 (X := (m105 t147)) (c := 8) rfl rfl rfl <| Plan.convUU .u8 (X := ((m105 t147) >>> 8)) FSha.u5 FSha.some93 rfl rfl <| Plan.move_int rfl rfl <| Plan.convUU .u8 (X := (m105 t147)) FSha.u5 FSha.some93 rfl rfl <| Plan.idxArr1 (j := (4 * t147)) FSha.arr58 rfl rfl rfl (by omega) ?_
     refine Plan.storeU (j := (4 * t147)) (X := (((m105 t147) >>> 24).setWidth 8)) h152 0 rfl rfl rfl rfl (by omega) FSha.sz5 rfl fun w158 h158 => ?_
     simp only [zca, zna, zsz, zss] at h158
     refine Plan.idxArr1 (j := ((4 * t147) + 1)) FSha.arr58 rfl rfl rfl (by omega) ?_
     refine Plan.storeU (j := ((4 * t147) + 1)) (X := (((m105 t147) >>> 16).setWidth 8)) h158 0 rfl rfl rfl rfl (by omega) FSha.sz5 rfl fun w159 h159 => ?_
     simp only [zca, zna, zsz, zss] at h159
     refine Plan.idxArr1 (j := ((4 * t147) + 2)) FSha.arr58 rfl rfl rfl (by omega) ?_
     refine Plan.storeU (j := ((4 * t147) + 2)) (X := (((m105 t147) >>> 8).setWidth 8)) h159 0 rfl rfl rfl rfl (by omega) FSha.sz5 rfl fun w160 h160 => ?_
     simp only [zca, zna, zsz, zss] at h160
     refine Plan.idxArr1 (j := ((4 * t147) + 3)) FSha.arr58 rfl rfl rfl (by omega) ?_
     refine Plan.storeU (j := ((4 * t147) + 3)) (X := ((m105 t147).setWidth 8)) h160 0 rfl rfl rfl rfl (by omega) FSha.sz5 rfl fun w161 h161 => ?_
     simp only [zca, zna, zsz, zss] at h161
     refine Plan.nil ?_
     refine blockR_norm ?_
     refine k156 _ _ ?_; clear k156
     refine W.regionT [(0, true), (1, true)] (by kernel_rfl) ?_
     refine Plan.addN (a := t147) (b := 1) rfl rfl rfl (by omega) <| Plan.move_int rfl rfl <| Plan.nil ?_
     exact iterR_norm ⟨_, hR, (zer (zer (zer (zer zen)))), h161⟩
    ·
     replace hR := ifF hR hc155
     refine W.condF (congrArg Value.bool (decide_eq_false hc155)) ?_
     refine W.exit (thenR_exit (iterR_exit (blockR_here ?_)))
     exact ⟨m148, (hx150 _ hR).symm, (zer (zer zen)), h152⟩
   ·
    rintro ev162 wl162 ⟨y_m149, hy162, he162, h162⟩
    obtain ⟨ev162, rfl⟩ := he162.open
    subst hy162
    replace hR := hR0150
    refine k126 _ _ ?_; clear k126
    refine W.seq_k fun _ k163 => W.regionT [(0, true), (1, false)] (by kernel_rfl) ?_
    refine Plan.loadA1 h162 0 rfl rfl rfl FSha.agg58 ?_
    refine Plan.storeA (f' := fun q => VU .u8 (m149 q)) h162 4 rfl rfl rfl rfl (fun _ _ => rfl) FSha.sz58 rfl fun w164 h164 => ?_
    simp only [zca, zna, zsz, zss] at h164
    refine Plan.nil (k163 _ _ ?_); clear k163
    refine W.ret (finR_ret ?_)
    have h165 := St.pickT (C := [_, _, _, _, _]) h164 [1, 2, 3] (by decide)
    simp only [pick, zfc, zfn, zgz, zgs, zca, zna] at h165
    subst r
    refine RetOk.mk (.agg h164 rfl (.cons 4 rfl .nil) FSha.agg58 .nil) ?_
    exact ⟨rfl, h165⟩
theorem sha_Sum_ok {B : Nat} {w0 w : World} {L : List Rg} {iG0 : Nat} (hG0 : L[iG0]? = some ⟨some 0, 0, 8, fun q => VU .u32 (H256 q), false⟩) {iG1 : Nat} (hG1 : L[iG1]? = some ⟨some 1, 0, 64, fun q => VU .u32 (K256 q), false⟩) {parts1 : List (List Byte)} {aparts1 : Option Addr} {nparts1 cparts1 iparts1 : Nat} (hparts1 : Bss L iparts1 aparts1 nparts1 cparts1 parts1) {r : (Nat → BitVec 8)} (hR : sha_Sum parts1 r) (HST : St B w0 (L) w) :
  Calls Tryd.prog 43 #[.slice aparts1 nparts1 cparts1] w fun e w' => e = .returned (AG [(32, fun q => VU .u8 (r q))]) ∧ St B w0 (L) w' := by
 refine W.enter 19 Tryd.func43 rfl rfl rfl ?_
 unfold sha_Sum at hR
 have eparts1 := hparts1.hl; subst eparts1
 refine W.seq_k fun _ k2 => W.regionT [(0, false)] (by kernel_rfl) ?_
 refine Plan.alloc HST rfl FSha.z58 PIn.nil fun b3 w3 hb3 h3 => ?_
 simp only [rngs, Nat.zero_add, Nat.reduceAdd, zca, zna] at h3
 refine Plan.nil (k2 _ _ ?_); clear k2
 refine W.seq_k fun _ k4 => W.regionT [(0, false), (1, true)] (by kernel_rfl) ?_
 obtain ⟨x_6, x_7, x_8, hr5, hR⟩ := hR
 refine Plan.call (vs := []) rfl FSha.call39 rfl (sha_New_ok (iG0 := iG0 + 1) hG0 hr5 h3) ?_
 rintro _ w10 ⟨b0_9, rfl, h10⟩
 refine ⟨_, rfl, .inl ⟨PIn.keep PIn.nil h10, ?_⟩⟩
 refine Plan.assign_ptr rfl rfl <| Plan.nil (k4 _ _ ?_); clear k4
 refine W.seq_k fun _ k11 => W.seq_k fun _ k12 => ?_
 refine W.regionT [(0, true), (1, true), (2, true)] (by kernel_rfl) ?_
 refine Plan.move_slice rfl rfl <| Plan.len FSha.isl40 rfl rfl <| Plan.move_int rfl rfl <| Plan.nil (k12 _ _ ?_); clear k12
 obtain ⟨m46, m47, m48, hI49, hR049⟩ := hR
 refine W.cutN (fun e w => ∃ y_m46 : Nat → BitVec 32, ∃ y_m47 : Nat → BitVec 8, ∃ y_m48 : Int, (m46, m47, m48) = (y_m46, y_m47, y_m48) ∧ EnvHas e [(2, .pointer (some ⟨b3, 0, none⟩)), (3, .pointer (some ⟨b0_9, 0, none⟩))] ∧ St B w0 (⟨some b0_9, 0, 8, fun q => VU .u32 (y_m46 q), true⟩ :: ⟨some b0_9, 8, 64, fun q => VU .u8 (y_m47 q), true⟩ :: ⟨some b0_9, 72, 1, fun _ => .int .i64 y_m48, true⟩ :: ⟨some b3, 0, 32, fun q => VU .u8 ((fun _ => 0#8) q), true⟩ :: L) w) ?_ ?_
 ·
  refine W.block ?_
  refine W.iter hI49 (fun (s49 : (Nat × (Nat → BitVec 32) × (Nat → BitVec 8) × Int)) e w => EnvHas e [(2, .pointer (some ⟨b3, 0, none⟩)), (3, .pointer (some ⟨b0_9, 0, none⟩)), (7, .slice aparts1 parts1.length cparts1), (8, VN parts1.length), (9, VN s49.1)] ∧ St B w0 (⟨some b0_9, 0, 8, fun q => VU .u32 (s49.2.1 q), true⟩ :: ⟨some b0_9, 8, 64, fun q => VU .u8 (s49.2.2.1 q), true⟩ :: ⟨some b0_9, 72, 1, fun _ => .int .i64 s49.2.2.2, true⟩ :: ⟨some b3, 0, 32, fun q => VU .u8 ((fun _ => 0#8) q), true⟩ :: L) w) ⟨(zer (zer (zer (zer (zer zen))))), h10⟩ ?_
  rintro ⟨t42, m43, m44, m45⟩ o49 hR hx49 ev50 wl50 ⟨he50, h50⟩
  obtain ⟨ev50, rfl⟩ := he50.open
  unfold sha_Sum_l0 at hR
  refine W.seq_k fun _ k51 => W.regionT [(0, true)] (by kernel_rfl) ?_
  refine Plan.cmpP (a := (((t42 : Nat) : Int) : Int)) (b := (((parts1.length : Nat) : Int) : Int)) (p := t42 < parts1.length) rfl rfl rfl rfl icmp_ltN <| Plan.nil (k51 _ _ ?_); clear k51
  refine W.seq_k fun _ k52 => ?_
  by_cases hc53 : t42 < parts1.length
  ·
   replace hR := ifT hR hc53
   refine W.condT (congrArg Value.bool (decide_eq_true hc53)) ?_
   refine W.skip ?_
   refine k52 _ _ ?_; clear k52
   refine W.seq_k fun _ k54 => ?_
   refine W.block ?_
   refine W.seq_k fun _ k55 => W.regionT [(0, true), (1, true), (2, true)] (by kernel_rfl) ?_
   obtain ⟨hc56, hR⟩ := hR
   refine Plan.idxBss (j := t42) hparts1 FSha.sl40 rfl rfl rfl hc56 ?_
   refine Plan.loadBss (D := [_, _, _, _]) (j := t42) h50 hparts1 rfl rfl hc56 FSha.sc24 fun r57 i57 a57 c57 hr57 hv57 => ?_
   refine Plan.assign_slice rfl rfl <| Plan.nil (k55 _ _ ?_); clear k55
   refine W.regionT [(0, true), (1, true), (2, false)] (by kernel_rfl) ?_
   refine Plan.move_ptr rfl rfl <| Plan.move_slice rfl rfl ?_
   obtain ⟨x_59, x_60, x_61, hr58, hR⟩ := hR
   refine Plan.call (vs := [.pointer (some ⟨b0_9, 0, none⟩), .slice a57 ((parts1.getD t42 []).length) c57]) rfl FSha.call40 rfl (sha_Hash_Write_ok (iG1 := iG1 + 1) hG1 (hv57.app [_]) hr58 h50) ?_
   rintro _ w62 ⟨rfl, h62⟩
   refine ⟨_, rfl, .inl ⟨PIn.keep PIn.nil h62, ?_⟩⟩
   refine Plan.nil ?_
   refine blockR_norm ?_
   refine k54 _ _ ?_; clear k54
   refine W.regionT [(0, true), (1, true)] (by kernel_rfl) ?_
   obtain ⟨hc63, hR⟩ := hR
   refine Plan.addN (a := t42) (b := 1) rfl rfl rfl (by omega) <| Plan.move_int rfl rfl <| Plan.nil ?_
   exact iterR_norm ⟨_, hR, (zer (zer (zer (zer (zer zen))))), h62⟩
  ·
   replace hR := ifF hR hc53
   refine W.condF (congrArg Value.bool (decide_eq_false hc53)) ?_
   refine W.exit (thenR_exit (iterR_exit (blockR_here ?_)))
   exact ⟨m43, m44, m45, (hx49 _ hR).symm, (zer (zer zen)), h50⟩
 ·
  rintro ev64 wl64 ⟨y_m46, y_m47, y_m48, hy64, he64, h64⟩
  obtain ⟨ev64, rfl⟩ := he64.open
  cases hy64
  replace hR := hR049
  refine k11 _ _ ?_; clear k11
  refine W.seq_k fun _ k65 => W.regionT [(0, true), (1, false), (2, false)] (by kernel_rfl) ?_
  refine Plan.move_ptr rfl rfl ?_
  obtain ⟨x_67, hr66, hR⟩ := hR
  refine Plan.call (vs := [.pointer (some ⟨b0_9, 0, none⟩)]) rfl FSha.call42 rfl (sha_Hash_Sum_ok (iG1 := iG1 + 1) hG1 hr66 h64) ?_
  rintro _ w68 ⟨rfl, h68⟩
  refine ⟨_, rfl, .inl ⟨PIn.keep PIn.nil h68, ?_⟩⟩
  refine Plan.storeA (f' := fun q => VU .u8 (x_67 q)) h68 3 rfl rfl rfl rfl (fun _ _ => rfl) FSha.sz58 rfl fun w69 h69 => ?_
  simp only [zca, zna, zsz, zss] at h69
  refine Plan.nil (k65 _ _ ?_); clear k65
  refine W.ret (finR_ret ?_)
  have h70 := St.pickT (C := [_, _, _, _]) h69 [] (by decide)
  simp only [pick, zfc, zfn, zgz, zgs, zca, zna] at h70
  subst r
  refine RetOk.mk (.agg h69 rfl (.cons 3 rfl .nil) FSha.agg58 .nil) ?_
  exact ⟨rfl, h70⟩
end Go.Proofs.YthjkmhdgenmnoaaDoor
