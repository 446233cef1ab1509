/-
 WALKS of the package's functions, printed by this session's own program (auto.py).
-/
import Derived.Test.YtjdgbahjpdopbaaDoorProg
import Derived.Test.YtjdgbahjpdopbaaDoorEb
import Derived.Test.YtjdgbahjpdopbaaDoorRShaExact
import Derived.Test.YtjdgbahjpdopbaaDoorEls
import Derived.Test.YtjdgbahjpdopbaaDoorWLaw02
import Derived.Test.YtjdgbahjpdopbaaDoorWRef02
import Derived.Test.YtjdgbahjpdopbaaDoorWSha
namespace Go.Proofs.YtjdgbahjpdopbaaDoor
set_option linter.unusedSimpArgs false
set_option linter.unusedVariables false
set_option linter.unusedSectionVars false
set_option maxRecDepth 8000
set_option maxHeartbeats 1000000
open Go Go.LW
theorem FShaExact.agg27 : aggT Tryd.prog 27 8 = true := by kernel_rfl
theorem FShaExact.call23 : callB Tryd.prog 23 = true := by kernel_rfl
theorem FShaExact.ptr37 : ptrB Tryd.prog 37 = true := by kernel_rfl
theorem FShaExact.sz5 : szT Tryd.prog 5 1 = true := by kernel_rfl
theorem FShaExact.isl22 : ∃ el, Tryd.prog.underlying 22 = some (.slice el) := ⟨5, by kernel_rfl⟩
theorem FShaExact.mixed : Tryd.prog.follows .mixedOrders = true := by kernel_rfl
theorem FShaExact.sc3 : scalarT Tryd.prog 3 = true := by kernel_rfl
theorem FShaExact.sl22 : slB Tryd.prog 22 1 = true := by kernel_rfl
theorem FShaExact.agg30 : aggT Tryd.prog 30 64 = true := by kernel_rfl
theorem FShaExact.call20 : callB Tryd.prog 20 = true := by kernel_rfl
theorem FShaExact.call25 : callB Tryd.prog 25 = true := by kernel_rfl
theorem FShaExact.call26 : callB Tryd.prog 26 = true := by kernel_rfl
theorem FShaExact.call17 : callB Tryd.prog 17 = true := by kernel_rfl
theorem FShaExact.row49 : rowB Tryd.prog 49 = true := by kernel_rfl
theorem FShaExact.z49 : zeroIs Tryd.prog 49 [(1, fun _ => .pointer none), (1, fun _ => .pointer none), (1, fun _ => .pointer none), (1, fun _ => .slice none 0 0), (1, fun _ => .slice none 0 0), (1, fun _ => .slice none 0 0)] := zeroIs_agg (by kernel_rfl)
theorem FShaExact.fld49_0 : fieldB Tryd.prog 49 0 0 = true := by kernel_rfl
theorem FShaExact.arr46 : arrB Tryd.prog 46 3 1 = true := by kernel_rfl
theorem FShaExact.sz37 : szT Tryd.prog 37 1 = true := by kernel_rfl
theorem FShaExact.sc37 : scalarT Tryd.prog 37 = true := by kernel_rfl
theorem FShaExact.isl44 : ∃ el, Tryd.prog.underlying 44 = some (.slice el) := ⟨52, by kernel_rfl⟩
theorem FShaExact.sl44 : slB Tryd.prog 44 77 = true := by kernel_rfl
theorem FShaExact.agg52 : aggT Tryd.prog 52 77 = true := by kernel_rfl
theorem FShaExact.fld52_0 : fieldB Tryd.prog 52 0 0 = true := by kernel_rfl
theorem FShaExact.fld52_3 : fieldB Tryd.prog 52 3 3 = true := by kernel_rfl
theorem FShaExact.sc22 : scalarT Tryd.prog 22 = true := by kernel_rfl
theorem FShaExact.fld52_4 : fieldB Tryd.prog 52 4 4 = true := by kernel_rfl
theorem FShaExact.el22 : elD Tryd.prog 22 = some (1, 1, some (VU .u8 0#8)) := by kernel_rfl
theorem FShaExact.call52 : callB Tryd.prog 52 = true := by kernel_rfl
theorem FShaExact.z32 : zeroIs Tryd.prog 32 [(32, fun _ => VU .u8 0#8)] := zeroIs_agg (by kernel_rfl)
theorem FShaExact.zv22 : (Tryd.prog.info? 22).bind (·.zero) = some (.slice none 0 0) := by kernel_rfl
theorem FShaExact.slu75 : Tryd.prog.underlying 75 = some (.slice 22) := by kernel_rfl
theorem FShaExact.sz22 : szT Tryd.prog 22 1 = true := by kernel_rfl
theorem FShaExact.call30 : callB Tryd.prog 30 = true := by kernel_rfl
theorem FShaExact.agg32 : aggT Tryd.prog 32 32 = true := by kernel_rfl
theorem FShaExact.sz32 : szT Tryd.prog 32 32 = true := by kernel_rfl
theorem FShaExact.call27 : callB Tryd.prog 27 = true := by kernel_rfl
theorem FShaExact.call21 : callB Tryd.prog 21 = true := by kernel_rfl
theorem FShaExact.call55 : callB Tryd.prog 55 = true := by kernel_rfl
theorem FShaExact.call53 : callB Tryd.prog 53 = true := by kernel_rfl
theorem FShaExact.arrI32 : arrIB Tryd.prog 32 32 .u8 = true := by kernel_rfl
theorem FShaExact.call54 : callB Tryd.prog 54 = true := by kernel_rfl
theorem FShaExact.fld52_5 : fieldB Tryd.prog 52 5 5 = true := by kernel_rfl
theorem FShaExact.fld52_6 : fieldB Tryd.prog 52 6 13 = true := by kernel_rfl
theorem FShaExact.arrI27 : arrIB Tryd.prog 27 8 .u32 = true := by kernel_rfl
theorem FShaExact.fld52_1 : fieldB Tryd.prog 52 1 1 = true := by kernel_rfl
theorem FShaExact.fld52_2 : fieldB Tryd.prog 52 2 2 = true := by kernel_rfl
theorem FShaExact.call24 : callB Tryd.prog 24 = true := by kernel_rfl
theorem FShaExact.fld49_1 : fieldB Tryd.prog 49 1 3 = true := by kernel_rfl
theorem FShaExact.arr47 : arrB Tryd.prog 47 3 1 = true := by kernel_rfl
theorem FShaExact.call31 : callB Tryd.prog 31 = true := by kernel_rfl
theorem FShaExact.call29 : callB Tryd.prog 29 = true := by kernel_rfl
theorem FShaExact.call28 : callB Tryd.prog 28 = true := by kernel_rfl
theorem FShaExact.pl52 : placesB Tryd.prog 52 [(0, 1), (1, 1), (2, 1), (3, 1), (4, 1), (5, 8), (13, 64)] = true := by kernel_rfl
theorem FShaExact.z52 : zeroIs Tryd.prog 52 [(1, fun _ => .int .i64 0), (1, fun _ => .int .i64 0), (1, fun _ => .int .i64 0), (1, fun _ => .slice none 0 0), (1, fun _ => .slice none 0 0), (8, fun _ => VU .u32 0#32), (64, fun _ => VU .u8 0#8)] := zeroIs_agg (by kernel_rfl)
theorem lethelaw02_ShaExact_ok {B : Nat} {w0 w : World} {L : List Rg} {iG0 : Nat} (hG0 : L[iG0]? = some ⟨some 0, 0, 64, fun q => VU .u32 (K256 q), false⟩) {iG1 : Nat} (hG1 : L[iG1]? = some ⟨some 1, 0, 8, fun q => VU .u32 (H256 q), false⟩) {iG2 : Nat} (hG2 : L[iG2]? = some ⟨some 2, 0, 64, fun q => VU .u64 (K64 q), false⟩) {iG3 : Nat} (hG3 : L[iG3]? = some ⟨some 3, 0, 8, fun q => VU .u64 (H64 q), false⟩) {script1 : List (Int × Int × Int × (List Byte) × (List Byte) × (Nat → BitVec 32) × (Nat → BitVec 8))} {ascript1 : Option Addr} {nscript1 cscript1 iscript1 : Nat} (hscript1 : LV D52 L iscript1 ascript1 nscript1 cscript1 script1) {r : Bool} (hR : lethelaw02_ShaExact script1 r) (HST : St B w0 (L) w) :
  Calls Tryd.prog 6 #[.slice ascript1 nscript1 cscript1] w fun e w' => e = .returned (.bool r) ∧ St B w0 (L) w' := by
 refine W.enter 59 Tryd.func6 rfl rfl rfl ?_
 unfold lethelaw02_ShaExact at hR
 have escript1 := hscript1.hl; subst escript1
 refine W.seq_k fun _ k2 => W.regionT [(0, true)] (by kernel_rfl) ?_
 refine Plan.assign_bool rfl rfl <| Plan.nil (k2 _ _ ?_); clear k2
 refine W.seq_k fun _ k3 => W.seq_k fun _ k4 => ?_
 refine W.regionT [(0, false), (1, true)] (by kernel_rfl) ?_
 obtain ⟨x_6, hr5, hR⟩ := hR
 refine Plan.call (vs := []) rfl FShaExact.call17 rfl (lethelaw02_moves_ok (iG0 := iG0 + 0) hG0 (iG1 := iG1 + 0) hG1 hr5 HST) ?_
 rintro _ w7 ⟨rfl, h7⟩
 refine ⟨_, rfl, .inl ⟨PIn.keep PIn.nil h7, ?_⟩⟩
 refine Plan.not rfl rfl <| Plan.nil (k4 _ _ ?_); clear k4
 by_cases hc8 : x_6 = true
 ·
  replace hR := ifT hR hc8
  refine W.condF (congrArg Value.bool (congrArg Bool.not hc8)) ?_
  refine W.skip ?_
  refine k3 _ _ ?_; clear k3
  refine W.seq_k fun _ k9 => W.regionT [(0, true), (1, false), (2, true)] (by kernel_rfl) ?_
  refine Plan.buildZ FShaExact.row49 FShaExact.z49 rfl ?_
  refine Plan.boxA h7 rfl rfl PIn.nil fun b10 w10 hb10 h10 => ?_
  simp only [rngs, Nat.zero_add, Nat.reduceAdd, zca, zna] at h10
  refine Plan.assign_ptr rfl rfl <| Plan.nil (k9 _ _ ?_); clear k9
  refine W.seq_k fun _ k11 => W.seq_k fun _ k12 => ?_
  refine W.regionT [(0, true)] (by kernel_rfl) ?_
  refine Plan.assign_int rfl rfl <| Plan.nil (k12 _ _ ?_); clear k12
  refine W.block ?_
  refine W.unroll 9 (UL.next ?_)
  refine W.seq_k fun _ k13 => W.seq_k fun _ k14 => ?_
  refine W.regionT [(0, true), (1, true)] (by kernel_rfl) ?_
  refine Plan.move_int rfl rfl <| Plan.cmpP (a := (0 : Int)) (b := (3 : Int)) (p := (0 : Nat) < 3) rfl rfl rfl rfl icmp_ltN <| Plan.nil (k14 _ _ ?_); clear k14
  refine W.condT rfl ?_
  refine W.skip ?_
  refine k13 _ _ ?_; clear k13
  refine W.seq_k fun _ k15 => ?_
  refine W.block ?_
  refine W.seq_k fun _ k16 => ?_
  refine W.regionD FShaExact.mixed [(0, true), (1, true), (3, true), (4, true), (2, false), (5, true), (6, false)] (by kernel_rfl) ?_
  have h17 := h10.drew
  refine Plan.move_ptr rfl rfl <| Plan.move_int rfl rfl <| Plan.nilCheck rfl rfl <| Plan.fieldAddr0 FShaExact.fld49_0 rfl rfl ?_
  obtain ⟨x_19, x_20, x_21, hr18, hR⟩ := hR
  refine Plan.call (vs := []) rfl FShaExact.call23 rfl (sha_New_ok (iG1 := iG1 + 6) hG1 hr18 h17) ?_
  rintro _ w23 ⟨b0_22, rfl, h23⟩
  refine ⟨_, rfl, .inl ⟨PIn.keep PIn.nil h23, ?_⟩⟩
  refine Plan.idxArrO (j := 0) (o' := 0) FShaExact.arr46 rfl rfl rfl (by omega) rfl ?_
  refine Plan.storeC h23 3 rfl rfl rfl rfl rfl FShaExact.sz37 rfl fun w24 h24 => ?_
  simp only [zca, zna, zsz, zss] at h24
  refine Plan.nil (k16 _ _ ?_); clear k16
  refine W.seq_k fun _ k25 => W.regionT [(0, true), (1, true), (2, true), (3, true), (4, true), (5, true), (6, true)] (by kernel_rfl) ?_
  refine Plan.move_ptr rfl rfl <| Plan.move_int rfl rfl <| Plan.nilCheck rfl rfl <| Plan.fieldAddr0 FShaExact.fld49_0 rfl rfl <| Plan.idxArrO (j := 0) (o' := 0) FShaExact.arr46 rfl rfl rfl (by omega) rfl <| Plan.load0 h24 3 rfl rfl rfl (by omega) FShaExact.sc37 <| Plan.eqNil (b := false) FShaExact.ptr37 rfl rfl rfl rfl <| Plan.nil (k25 _ _ ?_); clear k25
  refine W.condF rfl ?_
  refine W.skip ?_
  refine blockR_norm ?_
  refine k15 _ _ ?_; clear k15
  refine W.regionT [(0, true), (1, true), (2, true)] (by kernel_rfl) ?_
  refine Plan.move_int rfl rfl <| Plan.addN (a := 0) (b := 1) rfl rfl rfl (by omega) <| Plan.assign_int rfl rfl <| Plan.nil ?_
  refine UL.nextT ?_
  refine W.seq_k fun _ k26 => W.seq_k fun _ k27 => ?_
  refine W.regionT [(0, true), (1, true)] (by kernel_rfl) ?_
  refine Plan.move_int rfl rfl <| Plan.cmpP (a := (1 : Int)) (b := (3 : Int)) (p := (1 : Nat) < 3) rfl rfl rfl rfl icmp_ltN <| Plan.nil (k27 _ _ ?_); clear k27
  refine W.condT rfl ?_
  refine W.skip ?_
  refine k26 _ _ ?_; clear k26
  refine W.seq_k fun _ k28 => ?_
  refine W.block ?_
  refine W.seq_k fun _ k29 => ?_
  refine W.regionD FShaExact.mixed [(0, true), (1, true), (3, true), (4, true), (2, false), (5, true), (6, false)] (by kernel_rfl) ?_
  have h30 := h24.drew
  refine Plan.move_ptr rfl rfl <| Plan.move_int rfl rfl <| Plan.nilCheck rfl rfl <| Plan.fieldAddr0 FShaExact.fld49_0 rfl rfl ?_
  obtain ⟨x_32, x_33, x_34, hr31, hR⟩ := hR
  refine Plan.call (vs := []) rfl FShaExact.call23 rfl (sha_New_ok (iG1 := iG1 + 9) hG1 hr31 h30) ?_
  rintro _ w36 ⟨b0_35, rfl, h36⟩
  refine ⟨_, rfl, .inl ⟨PIn.keep PIn.nil h36, ?_⟩⟩
  refine Plan.idxArrO (j := 1) (o' := 1) FShaExact.arr46 rfl rfl rfl (by omega) rfl ?_
  refine Plan.storeC h36 7 rfl rfl rfl rfl rfl FShaExact.sz37 rfl fun w37 h37 => ?_
  simp only [zca, zna, zsz, zss] at h37
  refine Plan.nil (k29 _ _ ?_); clear k29
  refine W.seq_k fun _ k38 => W.regionT [(0, true), (1, true), (2, true), (3, true), (4, true), (5, true), (6, true)] (by kernel_rfl) ?_
  refine Plan.move_ptr rfl rfl <| Plan.move_int rfl rfl <| Plan.nilCheck rfl rfl <| Plan.fieldAddr0 FShaExact.fld49_0 rfl rfl <| Plan.idxArrO (j := 1) (o' := 1) FShaExact.arr46 rfl rfl rfl (by omega) rfl <| Plan.load0 h37 7 rfl rfl rfl (by omega) FShaExact.sc37 <| Plan.eqNil (b := false) FShaExact.ptr37 rfl rfl rfl rfl <| Plan.nil (k38 _ _ ?_); clear k38
  refine W.condF rfl ?_
  refine W.skip ?_
  refine blockR_norm ?_
  refine k28 _ _ ?_; clear k28
  refine W.regionT [(0, true), (1, true), (2, true)] (by kernel_rfl) ?_
  refine Plan.move_int rfl rfl <| Plan.addN (a := 1) (b := 1) rfl rfl rfl (by omega) <| Plan.assign_int rfl rfl <| Plan.nil ?_
  refine UL.nextT ?_
  refine W.seq_k fun _ k39 => W.seq_k fun _ k40 => ?_
  refine W.regionT [(0, true), (1, true)] (by kernel_rfl) ?_
  refine Plan.move_int rfl rfl <| Plan.cmpP (a := (2 : Int)) (b := (3 : Int)) (p := (2 : Nat) < 3) rfl rfl rfl rfl icmp_ltN <| Plan.nil (k40 _ _ ?_); clear k40
  refine W.condT rfl ?_
  refine W.skip ?_
  refine k39 _ _ ?_; clear k39
  refine W.seq_k fun _ k41 => ?_
  refine W.block ?_
  refine W.seq_k fun _ k42 => ?_
  refine W.regionD FShaExact.mixed [(0, true), (1, true), (3, true), (4, true), (2, false), (5, true), (6, false)] (by kernel_rfl) ?_
  have h43 := h37.drew
  refine Plan.move_ptr rfl rfl <| Plan.move_int rfl rfl <| Plan.nilCheck rfl rfl <| Plan.fieldAddr0 FShaExact.fld49_0 rfl rfl ?_
  obtain ⟨x_45, x_46, x_47, hr44, hR⟩ := hR
  refine Plan.call (vs := []) rfl FShaExact.call23 rfl (sha_New_ok (iG1 := iG1 + 12) hG1 hr44 h43) ?_
  rintro _ w49 ⟨b0_48, rfl, h49⟩
  refine ⟨_, rfl, .inl ⟨PIn.keep PIn.nil h49, ?_⟩⟩
  refine Plan.idxArrO (j := 2) (o' := 2) FShaExact.arr46 rfl rfl rfl (by omega) rfl ?_
  refine Plan.storeC h49 11 rfl rfl rfl rfl rfl FShaExact.sz37 rfl fun w50 h50 => ?_
  simp only [zca, zna, zsz, zss] at h50
  refine Plan.nil (k42 _ _ ?_); clear k42
  refine W.seq_k fun _ k51 => W.regionT [(0, true), (1, true), (2, true), (3, true), (4, true), (5, true), (6, true)] (by kernel_rfl) ?_
  refine Plan.move_ptr rfl rfl <| Plan.move_int rfl rfl <| Plan.nilCheck rfl rfl <| Plan.fieldAddr0 FShaExact.fld49_0 rfl rfl <| Plan.idxArrO (j := 2) (o' := 2) FShaExact.arr46 rfl rfl rfl (by omega) rfl <| Plan.load0 h50 11 rfl rfl rfl (by omega) FShaExact.sc37 <| Plan.eqNil (b := false) FShaExact.ptr37 rfl rfl rfl rfl <| Plan.nil (k51 _ _ ?_); clear k51
  refine W.condF rfl ?_
  refine W.skip ?_
  refine blockR_norm ?_
  refine k41 _ _ ?_; clear k41
  refine W.regionT [(0, true), (1, true), (2, true)] (by kernel_rfl) ?_
  refine Plan.move_int rfl rfl <| Plan.addN (a := 2) (b := 1) rfl rfl rfl (by omega) <| Plan.assign_int rfl rfl <| Plan.nil ?_
  refine UL.nextT ?_
  refine W.seq_k fun _ k52 => W.seq_k fun _ k53 => ?_
  refine W.regionT [(0, true), (1, true)] (by kernel_rfl) ?_
  refine Plan.move_int rfl rfl <| Plan.cmpP (a := (3 : Int)) (b := (3 : Int)) (p := (3 : Nat) < 3) rfl rfl rfl rfl icmp_ltN <| Plan.nil (k53 _ _ ?_); clear k53
  refine W.condF rfl ?_
  refine W.exit (thenR_exit (thenR_exit (blockR_here ?_)))
  refine k11 _ _ ?_; clear k11
  refine W.seq_k fun _ k54 => W.seq_k fun _ k55 => ?_
  refine W.regionT [(0, true)] (by kernel_rfl) ?_
  refine Plan.assign_int rfl rfl <| Plan.nil (k55 _ _ ?_); clear k55
  have h8164 := h50.nilR
  have h8165 := h8164.nilR
  have h8166 := h8165.nilR
  obtain ⟨x8163, hI8163, hR08163⟩ := hR
  refine W.cutN (fun e w => ∃ y_m8149 : Nat → BitVec 32, ∃ y_m8150 : Nat → BitVec 8, ∃ y_m8151 : Int, ∃ y_m8153 : Nat → BitVec 32, ∃ y_m8154 : Nat → BitVec 8, ∃ y_m8155 : Int, ∃ y_m8157 : Nat → BitVec 32, ∃ y_m8158 : Nat → BitVec 8, ∃ y_m8159 : Int, ∃ y_m8160 : List Byte, ∃ y_m8161 : List Byte, ∃ y_m8162 : List Byte, x8163 = some (y_m8149, y_m8150, y_m8151, y_m8153, y_m8154, y_m8155, y_m8157, y_m8158, y_m8159, y_m8160, y_m8161, y_m8162) ∧ ∃ b8148 : Nat, ∃ b8152 : Nat, ∃ b8156 : Nat, ∃ am8160 : Option Addr, ∃ pm8160 : Option Nat, ∃ cm8160 : Nat, ∃ Fm8160 : Nat → Byte, ∃ am8161 : Option Addr, ∃ pm8161 : Option Nat, ∃ cm8161 : Nat, ∃ Fm8161 : Nat → Byte, ∃ am8162 : Option Addr, ∃ pm8162 : Option Nat, ∃ cm8162 : Nat, ∃ Fm8162 : Nat → Byte, EnvHas e [(3, .pointer (some ⟨b10, 0, none⟩))] ∧ St B w0 (⟨some b8148, 0, 8, fun q => VU .u32 (y_m8149 q), true⟩ :: ⟨some b8148, 8, 64, fun q => VU .u8 (y_m8150 q), true⟩ :: ⟨some b8148, 72, 1, fun _ => .int .i64 y_m8151, true⟩ :: ⟨some b8152, 0, 8, fun q => VU .u32 (y_m8153 q), true⟩ :: ⟨some b8152, 8, 64, fun q => VU .u8 (y_m8154 q), true⟩ :: ⟨some b8152, 72, 1, fun _ => .int .i64 y_m8155, true⟩ :: ⟨some b8156, 0, 8, fun q => VU .u32 (y_m8157 q), true⟩ :: ⟨some b8156, 8, 64, fun q => VU .u8 (y_m8158 q), true⟩ :: ⟨some b8156, 72, 1, fun _ => .int .i64 y_m8159, true⟩ :: ⟨pm8160, 0, cm8160, fun q => VU .u8 (Fm8160 q), true⟩ :: ⟨pm8161, 0, cm8161, fun q => VU .u8 (Fm8161 q), true⟩ :: ⟨pm8162, 0, cm8162, fun q => VU .u8 (Fm8162 q), true⟩ :: ⟨some b10, 0, 1, fun _ => .pointer (some ⟨b8148, 0, none⟩), true⟩ :: ⟨some b10, 1, 1, fun _ => .pointer (some ⟨b8152, 0, none⟩), true⟩ :: ⟨some b10, 2, 1, fun _ => .pointer (some ⟨b8156, 0, none⟩), true⟩ :: ⟨some b10, 3, 1, fun _ => .slice am8160 y_m8160.length cm8160, true⟩ :: ⟨some b10, 4, 1, fun _ => .slice am8161 y_m8161.length cm8161, true⟩ :: ⟨some b10, 5, 1, fun _ => .slice am8162 y_m8162.length cm8162, true⟩ :: L) w ∧ Ow am8160 pm8160 y_m8160.length cm8160 Fm8160 y_m8160 ∧ Ow am8161 pm8161 y_m8161.length cm8161 Fm8161 y_m8161 ∧ Ow am8162 pm8162 y_m8162.length cm8162 Fm8162 y_m8162) ?_ ?_
  ·
   refine W.block ?_
   have h8167 := St.pickT (C := [_, _, _, _, _, _, _, _, _, _, _, _, _, _, _, _, _, _]) h8166 [9, 10, 11, 6, 7, 8, 3, 4, 5, 2, 1, 0, 12, 13, 14, 15, 16, 17] (by decide)
   simp only [pick, zfc, zfn, zgz, zgs, zca, zna] at h8167
   refine W.iter hI8163 (fun (s8163 : (Nat × (Nat → BitVec 32) × (Nat → BitVec 8) × Int × (Nat → BitVec 32) × (Nat → BitVec 8) × Int × (Nat → BitVec 32) × (Nat → BitVec 8) × Int × (List Byte) × (List Byte) × (List Byte))) e w => ∃ b8130 : Nat, ∃ b8134 : Nat, ∃ b8138 : Nat, ∃ am8142 : Option Addr, ∃ pm8142 : Option Nat, ∃ cm8142 : Nat, ∃ Fm8142 : Nat → Byte, ∃ am8144 : Option Addr, ∃ pm8144 : Option Nat, ∃ cm8144 : Nat, ∃ Fm8144 : Nat → Byte, ∃ am8146 : Option Addr, ∃ pm8146 : Option Nat, ∃ cm8146 : Nat, ∃ Fm8146 : Nat → Byte, EnvHas e [(0, .slice ascript1 script1.length cscript1), (3, .pointer (some ⟨b10, 0, none⟩)), (5, VN s8163.1)] ∧ St B w0 (⟨some b8130, 0, 8, fun q => VU .u32 (s8163.2.1 q), true⟩ :: ⟨some b8130, 8, 64, fun q => VU .u8 (s8163.2.2.1 q), true⟩ :: ⟨some b8130, 72, 1, fun _ => .int .i64 s8163.2.2.2.1, true⟩ :: ⟨some b8134, 0, 8, fun q => VU .u32 (s8163.2.2.2.2.1 q), true⟩ :: ⟨some b8134, 8, 64, fun q => VU .u8 (s8163.2.2.2.2.2.1 q), true⟩ :: ⟨some b8134, 72, 1, fun _ => .int .i64 s8163.2.2.2.2.2.2.1, true⟩ :: ⟨some b8138, 0, 8, fun q => VU .u32 (s8163.2.2.2.2.2.2.2.1 q), true⟩ :: ⟨some b8138, 8, 64, fun q => VU .u8 (s8163.2.2.2.2.2.2.2.2.1 q), true⟩ :: ⟨some b8138, 72, 1, fun _ => .int .i64 s8163.2.2.2.2.2.2.2.2.2.1, true⟩ :: ⟨pm8142, 0, cm8142, fun q => VU .u8 (Fm8142 q), true⟩ :: ⟨pm8144, 0, cm8144, fun q => VU .u8 (Fm8144 q), true⟩ :: ⟨pm8146, 0, cm8146, fun q => VU .u8 (Fm8146 q), true⟩ :: ⟨some b10, 0, 1, fun _ => .pointer (some ⟨b8130, 0, none⟩), true⟩ :: ⟨some b10, 1, 1, fun _ => .pointer (some ⟨b8134, 0, none⟩), true⟩ :: ⟨some b10, 2, 1, fun _ => .pointer (some ⟨b8138, 0, none⟩), true⟩ :: ⟨some b10, 3, 1, fun _ => .slice am8142 s8163.2.2.2.2.2.2.2.2.2.2.1.length cm8142, true⟩ :: ⟨some b10, 4, 1, fun _ => .slice am8144 s8163.2.2.2.2.2.2.2.2.2.2.2.1.length cm8144, true⟩ :: ⟨some b10, 5, 1, fun _ => .slice am8146 s8163.2.2.2.2.2.2.2.2.2.2.2.2.length cm8146, true⟩ :: L) w ∧ Ow am8142 pm8142 s8163.2.2.2.2.2.2.2.2.2.2.1.length cm8142 Fm8142 s8163.2.2.2.2.2.2.2.2.2.2.1 ∧ Ow am8144 pm8144 s8163.2.2.2.2.2.2.2.2.2.2.2.1.length cm8144 Fm8144 s8163.2.2.2.2.2.2.2.2.2.2.2.1 ∧ Ow am8146 pm8146 s8163.2.2.2.2.2.2.2.2.2.2.2.2.length cm8146 Fm8146 s8163.2.2.2.2.2.2.2.2.2.2.2.2) ⟨b0_22, b0_35, b0_48, none, none, 0, (fun _ => 0#8), none, none, 0, (fun _ => 0#8), none, none, 0, (fun _ => 0#8), (zer (zer (zer zen))), h8167, Ow.nil, Ow.nil, Ow.nil⟩ ?_
   rintro ⟨i_8129, m8131, m8132, m8133, m8135, m8136, m8137, m8139, m8140, m8141, m8142, m8144, m8146⟩ o8163 hR hx8163 ev8168 wl8168 ⟨b8130, b8134, b8138, am8142, pm8142, cm8142, Fm8142, am8144, pm8144, cm8144, Fm8144, am8146, pm8146, cm8146, Fm8146, he8168, h8168, hm8142, hm8144, hm8146⟩
   obtain ⟨ev8168, rfl⟩ := he8168.open
   unfold lethelaw02_ShaExact_l0 at hR
   refine W.seq_k fun _ k8169 => W.seq_k fun _ k8173 => ?_
   refine W.regionT [(0, true), (1, true), (2, true), (3, true), (4, true), (5, true), (6, true), (7, true)] (by kernel_rfl) ?_
   refine Plan.move_int rfl rfl <| Plan.move_slice rfl rfl <| Plan.len FShaExact.isl44 rfl rfl ?_
   by_cases hc8174 : i_8129 < script1.length
   ·
    replace hR := ifT hR hc8174
    refine Plan.cmpV (a := (((i_8129 : Nat) : Int) : Int)) (b := (((script1.length : Nat) : Int) : Int)) (p := i_8129 < script1.length) (v := true) rfl rfl rfl rfl icmp_ltN (decide_eq_true hc8174) <| Plan.move_bool rfl rfl <| Plan.move_int rfl rfl <| Plan.cmpP (a := (((i_8129 : Nat) : Int) : Int)) (b := (60 : Int)) (p := i_8129 < 60) rfl rfl rfl rfl icmp_ltN <| Plan.pickTb rfl rfl rfl <| Plan.nil (k8173 _ _ ?_); clear k8173
    by_cases hc8175 : i_8129 < 60
    ·
     replace hR := ifT hR hc8175
     refine W.condT (congrArg Value.bool (decide_eq_true hc8175)) ?_
     refine W.skip ?_
     refine k8169 _ _ ?_; clear k8169
     refine W.seq_k fun _ k8176 => ?_
     refine W.block ?_
     refine W.seq_k fun _ k8177 => W.regionT [(0, true), (1, true), (2, true), (3, true), (4, true), (5, false), (6, true)] (by kernel_rfl) ?_
     refine Plan.move_ptr rfl rfl <| Plan.move_slice rfl rfl <| Plan.move_int rfl rfl ?_
     obtain ⟨hc8178, hR⟩ := hR
     refine Plan.idxLVS (D := D52) (j := i_8129) h8168 (hscript1.app [_, _, _, _, _, _, _, _, _, _, _, _, _, _, _, _, _, _]) FShaExact.sl44 rfl rfl rfl hc8178 ?_
     refine Plan.loadLVd (D := D52) (X := script1) (j := i_8129) (sz := 77) [_, _, _, _, _, _, _, _, _, _, _, _, _, _, _, _, _, _] h8168 ((0 : Int), (0 : Int), (0 : Int), ([] : List Byte), ([] : List Byte), (fun _ => 0#32), (fun _ => 0#8)) hscript1 rfl rfl hc8178 rfl FShaExact.agg52 fun b8179 r8179 hs8179 hr8179 => ?_
     obtain ⟨⟨i8179_3, hv8179_3⟩, ⟨i8179_4, hv8179_4⟩⟩ := hs8179
     obtain ⟨script10106, m10108, m10109, m10110, m10112, m10113, m10114, m10116, m10117, m10118, m10119, m10120, m10121, hX10122, hR010122⟩ := hR
     refine Plan.call (vs := [.pointer (some ⟨b10, 0, none⟩), AG [(1, fun _ => .int .i64 ((script1.getD i_8129 ((0 : Int), (0 : Int), (0 : Int), ([] : List Byte), ([] : List Byte), (fun _ => 0#32), (fun _ => 0#8))).1)), (1, fun _ => .int .i64 ((script1.getD i_8129 ((0 : Int), (0 : Int), (0 : Int), ([] : List Byte), ([] : List Byte), (fun _ => 0#32), (fun _ => 0#8))).2.1)), (1, fun _ => .int .i64 ((script1.getD i_8129 ((0 : Int), (0 : Int), (0 : Int), ([] : List Byte), ([] : List Byte), (fun _ => 0#32), (fun _ => 0#8))).2.2.1)), (1, fun _ => .slice ((b8179.1).1) (((script1.getD i_8129 ((0 : Int), (0 : Int), (0 : Int), ([] : List Byte), ([] : List Byte), (fun _ => 0#32), (fun _ => 0#8))).2.2.2.1).length) ((b8179.1).2)), (1, fun _ => .slice ((b8179.2).1) (((script1.getD i_8129 ((0 : Int), (0 : Int), (0 : Int), ([] : List Byte), ([] : List Byte), (fun _ => 0#32), (fun _ => 0#8))).2.2.2.2.1).length) ((b8179.2).2)), (8, fun q => VU .u32 (((script1.getD i_8129 ((0 : Int), (0 : Int), (0 : Int), ([] : List Byte), ([] : List Byte), (fun _ => 0#32), (fun _ => 0#8))).2.2.2.2.2.1) q)), (64, fun q => VU .u8 (((script1.getD i_8129 ((0 : Int), (0 : Int), (0 : Int), ([] : List Byte), ([] : List Byte), (fun _ => 0#32), (fun _ => 0#8))).2.2.2.2.2.2) q))]]) (R := fun e w => ∃ y_script10106 : Bool, ∃ y_m10108 : Nat → BitVec 32, ∃ y_m10109 : Nat → BitVec 8, ∃ y_m10110 : Int, ∃ y_m10112 : Nat → BitVec 32, ∃ y_m10113 : Nat → BitVec 8, ∃ y_m10114 : Int, ∃ y_m10116 : Nat → BitVec 32, ∃ y_m10117 : Nat → BitVec 8, ∃ y_m10118 : Int, ∃ y_m10119 : List Byte, ∃ y_m10120 : List Byte, ∃ y_m10121 : List Byte, (script10106 = y_script10106 ∧ m10108 = y_m10108 ∧ m10109 = y_m10109 ∧ m10110 = y_m10110 ∧ m10112 = y_m10112 ∧ m10113 = y_m10113 ∧ m10114 = y_m10114 ∧ m10116 = y_m10116 ∧ m10117 = y_m10117 ∧ m10118 = y_m10118 ∧ m10119 = y_m10119 ∧ m10120 = y_m10120 ∧ m10121 = y_m10121) ∧ ∃ b10107 : Nat, ∃ b10111 : Nat, ∃ b10115 : Nat, ∃ am10119 : Option Addr, ∃ pm10119 : Option Nat, ∃ cm10119 : Nat, ∃ Fm10119 : Nat → Byte, ∃ am10120 : Option Addr, ∃ pm10120 : Option Nat, ∃ cm10120 : Nat, ∃ Fm10120 : Nat → Byte, ∃ am10121 : Option Addr, ∃ pm10121 : Option Nat, ∃ cm10121 : Nat, ∃ Fm10121 : Nat → Byte, e = .returned (.bool y_script10106) ∧ St B w0 (⟨some b10107, 0, 8, fun q => VU .u32 (y_m10108 q), true⟩ :: ⟨some b10107, 8, 64, fun q => VU .u8 (y_m10109 q), true⟩ :: ⟨some b10107, 72, 1, fun _ => .int .i64 y_m10110, true⟩ :: ⟨some b10111, 0, 8, fun q => VU .u32 (y_m10112 q), true⟩ :: ⟨some b10111, 8, 64, fun q => VU .u8 (y_m10113 q), true⟩ :: ⟨some b10111, 72, 1, fun _ => .int .i64 y_m10114, true⟩ :: ⟨some b10115, 0, 8, fun q => VU .u32 (y_m10116 q), true⟩ :: ⟨some b10115, 8, 64, fun q => VU .u8 (y_m10117 q), true⟩ :: ⟨some b10115, 72, 1, fun _ => .int .i64 y_m10118, true⟩ :: ⟨pm10119, 0, cm10119, fun q => VU .u8 (Fm10119 q), true⟩ :: ⟨pm10120, 0, cm10120, fun q => VU .u8 (Fm10120 q), true⟩ :: ⟨pm10121, 0, cm10121, fun q => VU .u8 (Fm10121 q), true⟩ :: ⟨some b10, 0, 1, fun _ => .pointer (some ⟨b10107, 0, none⟩), true⟩ :: ⟨some b10, 1, 1, fun _ => .pointer (some ⟨b10111, 0, none⟩), true⟩ :: ⟨some b10, 2, 1, fun _ => .pointer (some ⟨b10115, 0, none⟩), true⟩ :: ⟨some b10, 3, 1, fun _ => .slice am10119 y_m10119.length cm10119, true⟩ :: ⟨some b10, 4, 1, fun _ => .slice am10120 y_m10120.length cm10120, true⟩ :: ⟨some b10, 5, 1, fun _ => .slice am10121 y_m10121.length cm10121, true⟩ :: L) w ∧ Ow am10119 pm10119 y_m10119.length cm10119 Fm10119 y_m10119 ∧ Ow am10120 pm10120 y_m10120.length cm10120 Fm10120 y_m10120 ∧ Ow am10121 pm10121 y_m10121.length cm10121 Fm10121 y_m10121) rfl FShaExact.call28 rfl ?_ ?_
     ·
      replace hR := hX10122
      refine W.enter 82 Tryd.func28 rfl rfl rfl ?_
      refine W.seq_k fun _ k10123 => W.regionT [(0, false), (1, true)] (by kernel_rfl) ?_
      refine Plan.boxA h8168 rfl rfl PIn.nil fun b10124 w10124 hb10124 h10124 => ?_
      simp only [rngs, Nat.zero_add, Nat.reduceAdd, zca, zna] at h10124
      refine Plan.assign_bool rfl rfl <| Plan.nil (k10123 _ _ ?_); clear k10123
      refine W.seq_k fun _ k10125 => W.seq_k fun _ k10126 => ?_
      refine W.regionT [(0, true), (1, true)] (by kernel_rfl) ?_
      refine Plan.fieldAddr0 FShaExact.fld52_0 rfl rfl <| Plan.load0 h10124 0 rfl rfl rfl (by omega) FShaExact.sc3 <| Plan.nil (k10126 _ _ ?_); clear k10126
      refine W.block ?_
      refine W.seq_k fun _ k10127 => W.regionT [(0, true), (1, true)] (by kernel_rfl) ?_
      refine Plan.cmpP (a := ((script1.getD i_8129 ((0 : Int), (0 : Int), (0 : Int), ([] : List Byte), ([] : List Byte), (fun _ => 0#32), (fun _ => 0#8))).1 : Int)) (b := (1 : Int)) (p := (script1.getD i_8129 ((0 : Int), (0 : Int), (0 : Int), ([] : List Byte), ([] : List Byte), (fun _ => 0#32), (fun _ => 0#8))).1 = 1) rfl rfl rfl rfl icmp_eq ?_
      refine Plan.assign_bool rfl rfl <| Plan.nil (k10127 _ _ ?_); clear k10127
      by_cases hc10128 : (script1.getD i_8129 ((0 : Int), (0 : Int), (0 : Int), ([] : List Byte), ([] : List Byte), (fun _ => 0#32), (fun _ => 0#8))).1 = 1
      ·
       replace hR := ifT hR hc10128
       refine W.condT (congrArg Value.bool (decide_eq_true hc10128)) ?_
       refine W.seq_k fun _ k10129 => ?_
       refine W.regionD FShaExact.mixed [(0, true), (1, true), (3, true), (4, true), (6, true), (7, true), (2, false), (5, false), (8, false), (9, true)] (by kernel_rfl) ?_
       have h10130 := h10124.drew
       refine Plan.fieldAddr 3 FShaExact.fld52_3 rfl rfl <| Plan.load0 h10130 3 rfl rfl rfl (by omega) FShaExact.sc22 <| Plan.fieldAddr 4 FShaExact.fld52_4 rfl rfl <| Plan.load0 h10130 4 rfl rfl rfl (by omega) FShaExact.sc22 <| Plan.fieldAddr 3 FShaExact.fld52_3 rfl rfl <| Plan.load0 h10130 3 rfl rfl rfl (by omega) FShaExact.sc22 ?_
       have h10131 := h10130.nilR
       obtain ⟨hc10133, hR⟩ := hR
       refine Plan.appendO (X := ([] : List Byte)) (Y := ((script1.getD i_8129 ((0 : Int), (0 : Int), (0 : Int), ([] : List Byte), ([] : List Byte), (fun _ => 0#32), (fun _ => 0#8))).2.2.2.1)) h10131 0 Ow.nil FShaExact.el22 FShaExact.sl22 rfl rfl rfl rfl (hv8179_3.app [_, _, _, _, _, _, _, _, _, _, _, _, _, _, _, _, _, _, _, _, _, _, _, _, _, _]) hc10133 (fun _ => EffO.mix _ (Filt.keep rfl (Filt.keep rfl (Filt.drop rfl Filt.nil))) (PIn.cons 4 rfl (PIn.cons 5 rfl PIn.nil))) fun a10132 pb10132 cap10132 F10132 w10132 ho10132 h10132 => ?_
       simp only [zca, zna, zsz, zss] at h10132
       obtain ⟨hc10135, hR⟩ := hR
       refine Plan.appendO (X := (([] : List Byte) ++ ((script1.getD i_8129 ((0 : Int), (0 : Int), (0 : Int), ([] : List Byte), ([] : List Byte), (fun _ => 0#32), (fun _ => 0#8))).2.2.2.1))) (Y := ((script1.getD i_8129 ((0 : Int), (0 : Int), (0 : Int), ([] : List Byte), ([] : List Byte), (fun _ => 0#32), (fun _ => 0#8))).2.2.2.2.1)) h10132 0 ho10132 FShaExact.el22 FShaExact.sl22 rfl rfl rfl rfl (hv8179_4.app [_, _, _, _, _, _, _, _, _, _, _, _, _, _, _, _, _, _, _, _, _, _, _, _, _, _]) hc10135 (fun _ => EffO.mix _ (Filt.keep rfl (Filt.drop rfl Filt.nil)) (PIn.cons 4 rfl PIn.nil)) fun a10134 pb10134 cap10134 F10134 w10134 ho10134 h10134 => ?_
       simp only [zca, zna, zsz, zss] at h10134
       obtain ⟨hc10137, hR⟩ := hR
       refine Plan.appendO (X := ((([] : List Byte) ++ ((script1.getD i_8129 ((0 : Int), (0 : Int), (0 : Int), ([] : List Byte), ([] : List Byte), (fun _ => 0#32), (fun _ => 0#8))).2.2.2.1)) ++ ((script1.getD i_8129 ((0 : Int), (0 : Int), (0 : Int), ([] : List Byte), ([] : List Byte), (fun _ => 0#32), (fun _ => 0#8))).2.2.2.2.1))) (Y := ((script1.getD i_8129 ((0 : Int), (0 : Int), (0 : Int), ([] : List Byte), ([] : List Byte), (fun _ => 0#32), (fun _ => 0#8))).2.2.2.1)) h10134 0 ho10134 FShaExact.el22 FShaExact.sl22 rfl rfl rfl rfl (hv8179_3.app [_, _, _, _, _, _, _, _, _, _, _, _, _, _, _, _, _, _, _, _, _, _, _, _, _, _]) hc10137 (fun _ => EffO.wait rfl) fun a10136 pb10136 cap10136 F10136 w10136 ho10136 h10136 => ?_
       simp only [zca, zna, zsz, zss] at h10136
       refine Plan.assign_slice rfl rfl <| Plan.nil (k10129 _ _ ?_); clear k10129
       refine W.seq_k fun _ k10138 => ?_
       refine W.regionD FShaExact.mixed [(0, true), (1, true), (3, true), (4, true), (2, false), (5, false), (6, false), (7, true)] (by kernel_rfl) ?_
       have h10139 := h10136.drew
       refine Plan.fieldAddr 3 FShaExact.fld52_3 rfl rfl <| Plan.load0 h10139 4 rfl rfl rfl (by omega) FShaExact.sc22 <| Plan.fieldAddr 4 FShaExact.fld52_4 rfl rfl <| Plan.load0 h10139 5 rfl rfl rfl (by omega) FShaExact.sc22 ?_
       have h10140 := h10139.nilR
       obtain ⟨hc10142, hR⟩ := hR
       refine Plan.appendO (X := ([] : List Byte)) (Y := ((script1.getD i_8129 ((0 : Int), (0 : Int), (0 : Int), ([] : List Byte), ([] : List Byte), (fun _ => 0#32), (fun _ => 0#8))).2.2.2.1)) h10140 0 Ow.nil FShaExact.el22 FShaExact.sl22 rfl rfl rfl rfl (hv8179_3.app [_, _, _, _, _, _, _, _, _, _, _, _, _, _, _, _, _, _, _, _, _, _, _, _, _, _, _]) hc10142 (fun _ => EffO.mix _ (Filt.keep rfl (Filt.drop rfl Filt.nil)) (PIn.cons 6 rfl PIn.nil)) fun a10141 pb10141 cap10141 F10141 w10141 ho10141 h10141 => ?_
       simp only [zca, zna, zsz, zss] at h10141
       obtain ⟨hc10144, hR⟩ := hR
       refine Plan.appendO (X := (([] : List Byte) ++ ((script1.getD i_8129 ((0 : Int), (0 : Int), (0 : Int), ([] : List Byte), ([] : List Byte), (fun _ => 0#32), (fun _ => 0#8))).2.2.2.1))) (Y := ((script1.getD i_8129 ((0 : Int), (0 : Int), (0 : Int), ([] : List Byte), ([] : List Byte), (fun _ => 0#32), (fun _ => 0#8))).2.2.2.2.1)) h10141 0 ho10141 FShaExact.el22 FShaExact.sl22 rfl rfl rfl rfl (hv8179_4.app [_, _, _, _, _, _, _, _, _, _, _, _, _, _, _, _, _, _, _, _, _, _, _, _, _, _, _]) hc10144 (fun _ => EffO.wait rfl) fun a10143 pb10143 cap10143 F10143 w10143 ho10143 h10143 => ?_
       simp only [zca, zna, zsz, zss] at h10143
       obtain ⟨x_10146, hr10145, hR⟩ := hR
       refine Plan.call (vs := [.slice a10143 (((([] : List Byte) ++ ((script1.getD i_8129 ((0 : Int), (0 : Int), (0 : Int), ([] : List Byte), ([] : List Byte), (fun _ => 0#32), (fun _ => 0#8))).2.2.2.1)) ++ ((script1.getD i_8129 ((0 : Int), (0 : Int), (0 : Int), ([] : List Byte), ([] : List Byte), (fun _ => 0#32), (fun _ => 0#8))).2.2.2.2.1)).length) cap10143]) rfl FShaExact.call52 rfl (lethelaw02_Room_ok (by exact (ho10143.bx 0 rfl)) hr10145 h10143) ?_
       rintro _ w10152 ⟨ay0_10147, py0_10148, ny0_10149, cy0_10150, Fy0_10151, rfl, h10152, hf10152_0⟩
       obtain rfl := hf10152_0.hl
       refine ⟨_, rfl, .inl ⟨PIn.keep PIn.nil h10152, ?_⟩⟩
       refine Plan.assign_slice rfl rfl <| Plan.nil (k10138 _ _ ?_); clear k10138
       refine W.seq_k fun _ k10153 => ?_
       refine W.regionX (B := B) (w0 := w0) (L := L) FShaExact.mixed [⟨24, 7, 32, [(32, fun q => VU .u8 ((fun _ => 0#8) q))]⟩] [(0, true), (1, true), (2, true), (3, true), (4, true), (5, true), (6, true), (7, true), (8, true), (9, true), (10, true), (11, true), (12, true), (13, true), (14, true), (15, true), (16, true), (17, true), (18, true), (19, true), (20, true), (21, true)] [[(22, false)], [(23, false)]] [(25, false)] (by kernel_rfl) (by kernel_rfl) (.cons FShaExact.z32 .nil) ?_
       have h10154 := h10152.drew
       refine Plan.move_slice rfl rfl <| Plan.fieldAddr 3 FShaExact.fld52_3 rfl rfl <| Plan.load0 h10154 6 rfl rfl rfl (by omega) FShaExact.sc22 <| Plan.len FShaExact.isl22 rfl rfl ?_
       obtain ⟨hc10155, hR⟩ := hR
       have hm10156 := hf10152_0.hc
       refine Plan.slSl (lo := 0) (hi := ((script1.getD i_8129 ((0 : Int), (0 : Int), (0 : Int), ([] : List Byte), ([] : List Byte), (fun _ => 0#32), (fun _ => 0#8))).2.2.2.1).length) FShaExact.sl22 rfl rfl rfl ⟨_, rfl⟩ (by omega) ?_
       refine Plan.move_slice rfl rfl <| Plan.fieldAddr 3 FShaExact.fld52_3 rfl rfl <| Plan.load0 h10154 6 rfl rfl rfl (by omega) FShaExact.sc22 <| Plan.len FShaExact.isl22 rfl rfl <| Plan.fieldAddr 3 FShaExact.fld52_3 rfl rfl <| Plan.load0 h10154 6 rfl rfl rfl (by omega) FShaExact.sc22 <| Plan.len FShaExact.isl22 rfl rfl <| Plan.fieldAddr 4 FShaExact.fld52_4 rfl rfl ?_
       refine Plan.load0 h10154 7 rfl rfl rfl (by omega) FShaExact.sc22 <| Plan.len FShaExact.isl22 rfl rfl ?_
       obtain ⟨hc10157, hR⟩ := hR
       refine Plan.addN (a := ((script1.getD i_8129 ((0 : Int), (0 : Int), (0 : Int), ([] : List Byte), ([] : List Byte), (fun _ => 0#32), (fun _ => 0#8))).2.2.2.1).length) (b := ((script1.getD i_8129 ((0 : Int), (0 : Int), (0 : Int), ([] : List Byte), ([] : List Byte), (fun _ => 0#32), (fun _ => 0#8))).2.2.2.2.1).length) rfl rfl rfl (by omega) ?_
       obtain ⟨hc10158, hR⟩ := hR
       have hm10159 := hf10152_0.hc
       refine Plan.slSl (lo := ((script1.getD i_8129 ((0 : Int), (0 : Int), (0 : Int), ([] : List Byte), ([] : List Byte), (fun _ => 0#32), (fun _ => 0#8))).2.2.2.1).length) (hi := ((((script1.getD i_8129 ((0 : Int), (0 : Int), (0 : Int), ([] : List Byte), ([] : List Byte), (fun _ => 0#32), (fun _ => 0#8))).2.2.2.1).length) + (((script1.getD i_8129 ((0 : Int), (0 : Int), (0 : Int), ([] : List Byte), ([] : List Byte), (fun _ => 0#32), (fun _ => 0#8))).2.2.2.2.1).length))) FShaExact.sl22 rfl rfl ⟨_, rfl⟩ ⟨_, rfl⟩ (by omega) ?_
       refine Plan.move_slice rfl rfl <| Plan.fieldAddr 3 FShaExact.fld52_3 rfl rfl <| Plan.load0 h10154 6 rfl rfl rfl (by omega) FShaExact.sc22 <| Plan.len FShaExact.isl22 rfl rfl ?_
       obtain ⟨hc10160, hR⟩ := hR
       have hm10161 := hf10152_0.hc
       refine Plan.slSl (lo := 0) (hi := ((script1.getD i_8129 ((0 : Int), (0 : Int), (0 : Int), ([] : List Byte), ([] : List Byte), (fun _ => 0#32), (fun _ => 0#8))).2.2.2.1).length) FShaExact.sl22 rfl rfl rfl ⟨_, rfl⟩ (by omega) ?_
       refine Plan.nil ⟨[_, _, _, _, _, _, _, _, _, _, _, _, _, _, _, _, _, _, _, _, _, _, _, _, _, _, _, _], h10154, (PIn.cons 6 rfl (PIn.cons 7 rfl (PIn.cons 6 rfl (PIn.cons 6 rfl (PIn.cons 6 rfl PIn.nil))))), ?_⟩
       refine PX.step fun C10162 z10162 w10162 h10162 => ?_
       simp only [zca, zna] at h10162
       refine Plan.buildSlice h10162 (ps := [(3, fun i => .slice ((fun i => ([(if cy0_10150 = 0 then (ay0_10147 : Option Addr) else (ay0_10147 : Option Addr).map (·.add (0 * 1))), (if cy0_10150 = ((script1.getD i_8129 ((0 : Int), (0 : Int), (0 : Int), ([] : List Byte), ([] : List Byte), (fun _ => 0#32), (fun _ => 0#8))).2.2.2.1).length then (ay0_10147 : Option Addr) else (ay0_10147 : Option Addr).map (·.add ((((script1.getD i_8129 ((0 : Int), (0 : Int), (0 : Int), ([] : List Byte), ([] : List Byte), (fun _ => 0#32), (fun _ => 0#8))).2.2.2.1).length) * 1))), (if cy0_10150 = 0 then (ay0_10147 : Option Addr) else (ay0_10147 : Option Addr).map (·.add (0 * 1)))] : List (Option Addr)).getD i none) i) ((fun i => ([(((script1.getD i_8129 ((0 : Int), (0 : Int), (0 : Int), ([] : List Byte), ([] : List Byte), (fun _ => 0#32), (fun _ => 0#8))).2.2.2.1).length - 0), (((((script1.getD i_8129 ((0 : Int), (0 : Int), (0 : Int), ([] : List Byte), ([] : List Byte), (fun _ => 0#32), (fun _ => 0#8))).2.2.2.1).length) + (((script1.getD i_8129 ((0 : Int), (0 : Int), (0 : Int), ([] : List Byte), ([] : List Byte), (fun _ => 0#32), (fun _ => 0#8))).2.2.2.2.1).length)) - ((script1.getD i_8129 ((0 : Int), (0 : Int), (0 : Int), ([] : List Byte), ([] : List Byte), (fun _ => 0#32), (fun _ => 0#8))).2.2.2.1).length), (((script1.getD i_8129 ((0 : Int), (0 : Int), (0 : Int), ([] : List Byte), ([] : List Byte), (fun _ => 0#32), (fun _ => 0#8))).2.2.2.1).length - 0)] : List Nat).getD i 0) i) ((fun i => ([(cy0_10150 - 0), (cy0_10150 - ((script1.getD i_8129 ((0 : Int), (0 : Int), (0 : Int), ([] : List Byte), ([] : List Byte), (fun _ => 0#32), (fun _ => 0#8))).2.2.2.1).length), (cy0_10150 - 0)] : List Nat).getD i 0) i))]) FShaExact.slu75 FShaExact.sz22 FShaExact.zv22 (by decide) (by decide) rfl rfl rfl (EffO.keep (PIn.cons 6 rfl (PIn.cons 7 rfl (PIn.cons 6 rfl (PIn.cons 6 rfl (PIn.cons 6 rfl PIn.nil)))))) fun b10164 w10164 hb10164 h10164 => ?_
       simp only [rngs, List.cons_append, List.nil_append] at h10164
       refine Plan.nil ⟨[_, _, _, _, _, _, _, _, _, _, _, _, _, _, _, _, _, _, _, _, _, _, _, _, _, _, _, _, _], h10164, (PIn.cons 7 rfl (PIn.cons 8 rfl (PIn.cons 7 rfl (PIn.cons 7 rfl (PIn.cons 7 rfl PIn.nil))))), ?_⟩
       refine PX.step fun C10165 z10165 w10165 h10165 => ?_
       simp only [zca, zna] at h10165
       obtain ⟨x_10167, hr10166, hR⟩ := hR
       refine Plan.call (vs := [.slice (some ⟨b10164, 0, none⟩) 3 3]) rfl FShaExact.call21 rfl (sha_Sum_ok (iG0 := (iG0 + C10165.length) + 29) (flget hG0 C10165) (iG1 := (iG1 + C10165.length) + 29) (flget hG1 C10165) (by exact (Bss.of 0 rfl rfl (fun i hi => match i, hi with | 0, _ => ⟨_, ((hf10152_0.bx 1 rfl).seg (lo := 0) (hi := ((script1.getD i_8129 ((0 : Int), (0 : Int), (0 : Int), ([] : List Byte), ([] : List Byte), (fun _ => 0#32), (fun _ => 0#8))).2.2.2.1).length) hc10155)⟩ | 1, _ => ⟨_, ((hf10152_0.bx 1 rfl).seg (lo := ((script1.getD i_8129 ((0 : Int), (0 : Int), (0 : Int), ([] : List Byte), ([] : List Byte), (fun _ => 0#32), (fun _ => 0#8))).2.2.2.1).length) (hi := ((((script1.getD i_8129 ((0 : Int), (0 : Int), (0 : Int), ([] : List Byte), ([] : List Byte), (fun _ => 0#32), (fun _ => 0#8))).2.2.2.1).length) + (((script1.getD i_8129 ((0 : Int), (0 : Int), (0 : Int), ([] : List Byte), ([] : List Byte), (fun _ => 0#32), (fun _ => 0#8))).2.2.2.2.1).length))) hc10158)⟩ | 2, _ => ⟨_, ((hf10152_0.bx 1 rfl).seg (lo := 0) (hi := ((script1.getD i_8129 ((0 : Int), (0 : Int), (0 : Int), ([] : List Byte), ([] : List Byte), (fun _ => 0#32), (fun _ => 0#8))).2.2.2.1).length) hc10160)⟩ | k + 3, hk => absurd hk (by omega)))) hr10166 h10165) ?_
       rintro _ w10168 ⟨rfl, h10168⟩
       refine ⟨_, rfl, .inl ⟨PIn.keep (PIn.cons 7 rfl (PIn.cons 8 rfl (PIn.cons 7 rfl (PIn.cons 7 rfl (PIn.cons 7 rfl PIn.nil))))) h10168, ?_⟩⟩
       refine Plan.nil ⟨[_, _, _, _, _, _, _, _, _, _, _, _, _, _, _, _, _, _, _, _, _, _, _, _, _, _, _, _, _], h10168, (PIn.cons 7 rfl (PIn.cons 8 rfl (PIn.cons 7 rfl (PIn.cons 7 rfl (PIn.cons 7 rfl PIn.nil))))), ?_⟩
       refine PX.done (KE.step fun b10169_24 => (KE.fin fun w10169 h10169 => ?_))
       simp only [rngs, Nat.zero_add, Nat.reduceAdd, zca, zna] at h10169
       refine Plan.storeA (f' := fun q => VU .u8 (x_10167 q)) h10169 29 rfl rfl rfl rfl (fun _ _ => rfl) FShaExact.sz32 rfl fun w10170 h10170 => ?_
       simp only [zca, zna, zsz, zss] at h10170
       refine Plan.nil (k10153 _ _ ?_); clear k10153
       refine W.seq_k fun _ k10171 => ?_
       refine W.regionD FShaExact.mixed [(0, true), (1, true), (2, false), (3, true), (4, true), (5, true), (6, true), (7, true), (9, true), (10, true), (8, false), (11, false), (12, false), (13, true), (14, true)] (by kernel_rfl) ?_
       have h10172 := h10170.drew
       refine Plan.loadA1 h10172 29 rfl rfl rfl FShaExact.agg32 <| Plan.move_slice rfl rfl ?_
       obtain ⟨x_10174, hr10173, hR⟩ := hR
       refine Plan.call (vs := [.slice a10136 ((((([] : List Byte) ++ ((script1.getD i_8129 ((0 : Int), (0 : Int), (0 : Int), ([] : List Byte), ([] : List Byte), (fun _ => 0#32), (fun _ => 0#8))).2.2.2.1)) ++ ((script1.getD i_8129 ((0 : Int), (0 : Int), (0 : Int), ([] : List Byte), ([] : List Byte), (fun _ => 0#32), (fun _ => 0#8))).2.2.2.2.1)) ++ ((script1.getD i_8129 ((0 : Int), (0 : Int), (0 : Int), ([] : List Byte), ([] : List Byte), (fun _ => 0#32), (fun _ => 0#8))).2.2.2.1)).length) cap10136]) rfl FShaExact.call53 rfl (letheref02_Sum_ok (iG2 := iG2 + 30) hG2 (iG3 := iG3 + 30) hG3 (by exact (ho10136.bx 3 rfl)) hr10173 h10172) ?_
       rintro _ w10175 ⟨rfl, h10175⟩
       refine ⟨_, rfl, .inl ⟨PIn.keep (PIn.cons 29 rfl PIn.nil) h10175, ?_⟩⟩
       by_cases hc10176 : (eqB 32 x_10167 x_10174) = true
       ·
        replace hR := ifT hR hc10176
        refine Plan.eqArrV (b := true) FShaExact.arrI32 rfl rfl rfl hc10176 <| Plan.move_bool rfl rfl <| Plan.move_slice rfl rfl <| Plan.fieldAddr 3 FShaExact.fld52_3 rfl rfl <| Plan.load0 h10175 7 rfl rfl rfl (by omega) FShaExact.sc22 <| Plan.fieldAddr 4 FShaExact.fld52_4 rfl rfl <| Plan.load0 h10175 8 rfl rfl rfl (by omega) FShaExact.sc22 ?_
        have h10177 := h10175.nilR
        obtain ⟨hc10179, hR⟩ := hR
        refine Plan.appendO (X := ([] : List Byte)) (Y := ((script1.getD i_8129 ((0 : Int), (0 : Int), (0 : Int), ([] : List Byte), ([] : List Byte), (fun _ => 0#32), (fun _ => 0#8))).2.2.2.1)) h10177 0 Ow.nil FShaExact.el22 FShaExact.sl22 rfl rfl rfl rfl (hv8179_3.app [_, _, _, _, _, _, _, _, _, _, _, _, _, _, _, _, _, _, _, _, _, _, _, _, _, _, _, _, _, _, _]) hc10179 (fun _ => EffO.mix _ (Filt.keep rfl (Filt.drop rfl (Filt.keep rfl Filt.nil))) (PIn.cons 9 rfl (PIn.cons 30 rfl PIn.nil))) fun a10178 pb10178 cap10178 F10178 w10178 ho10178 h10178 => ?_
        simp only [zca, zna, zsz, zss] at h10178
        obtain ⟨hc10181, hR⟩ := hR
        refine Plan.appendO (X := (([] : List Byte) ++ ((script1.getD i_8129 ((0 : Int), (0 : Int), (0 : Int), ([] : List Byte), ([] : List Byte), (fun _ => 0#32), (fun _ => 0#8))).2.2.2.1))) (Y := ((script1.getD i_8129 ((0 : Int), (0 : Int), (0 : Int), ([] : List Byte), ([] : List Byte), (fun _ => 0#32), (fun _ => 0#8))).2.2.2.2.1)) h10178 0 ho10178 FShaExact.el22 FShaExact.sl22 rfl rfl rfl rfl (hv8179_4.app [_, _, _, _, _, _, _, _, _, _, _, _, _, _, _, _, _, _, _, _, _, _, _, _, _, _, _, _, _, _, _]) hc10181 (fun _ => EffO.mix _ (Filt.drop rfl (Filt.keep rfl Filt.nil)) (PIn.cons 30 rfl PIn.nil)) fun a10180 pb10180 cap10180 F10180 w10180 ho10180 h10180 => ?_
        simp only [zca, zna, zsz, zss] at h10180
        obtain ⟨x_10183, hr10182, hR⟩ := hR
        refine Plan.call (vs := [.slice ay0_10147 x_10146.length cy0_10150, .slice a10180 (((([] : List Byte) ++ ((script1.getD i_8129 ((0 : Int), (0 : Int), (0 : Int), ([] : List Byte), ([] : List Byte), (fun _ => 0#32), (fun _ => 0#8))).2.2.2.1)) ++ ((script1.getD i_8129 ((0 : Int), (0 : Int), (0 : Int), ([] : List Byte), ([] : List Byte), (fun _ => 0#32), (fun _ => 0#8))).2.2.2.2.1)).length) cap10180]) rfl FShaExact.call54 rfl (lethelaw02_Kept_ok (by exact (hf10152_0.bx 2 rfl)) (by exact (ho10180.bx 0 rfl)) hr10182 h10180) ?_
        rintro _ w10184 ⟨rfl, h10184⟩
        refine ⟨_, rfl, .inl ⟨PIn.keep (PIn.cons 30 rfl PIn.nil) h10184, ?_⟩⟩
        refine Plan.pickTb rfl rfl rfl <| Plan.assign_bool rfl rfl <| Plan.nil (k10171 _ _ ?_); clear k10171
        refine W.ret (blockR_ret (thenR_ret (finR_ret ?_)))
        have h10185 := St.pickT (C := [_, _, _, _, _, _, _, _, _, _, _, _, _, _, _, _, _, _, _, _, _, _, _, _, _, _, _, _, _, _, _]) h10184 [12, 13, 14, 15, 16, 17, 18, 19, 20, 21, 22, 23, 24, 25, 26, 27, 28, 29] (by decide)
        simp only [pick, zfc, zfn, zgz, zgs, zca, zna] at h10185
        refine RetOk.mk (.tmp_bool rfl .nil) ?_
        exact ⟨x_10183, m8131, m8132, m8133, m8135, m8136, m8137, m8139, m8140, m8141, m8142, m8144, m8146, hR, b8130, b8134, b8138, am8142, pm8142, cm8142, Fm8142, am8144, pm8144, cm8144, Fm8144, am8146, pm8146, cm8146, Fm8146, rfl, h10185, hm8142, hm8144, hm8146⟩
       ·
        replace hR := ifF hR hc10176
        refine Plan.eqArrV (b := false) FShaExact.arrI32 rfl rfl rfl (Bool.eq_false_iff.2 hc10176) <| Plan.move_bool rfl rfl <| Plan.passed rfl <| Plan.passed rfl <| Plan.passed rfl <| Plan.passed rfl <| Plan.passed rfl <| Plan.passed rfl ?_
        refine Plan.passed rfl <| Plan.passed rfl <| Plan.pickFb rfl rfl rfl <| Plan.assign_bool rfl rfl <| Plan.nil (k10171 _ _ ?_); clear k10171
        refine W.ret (blockR_ret (thenR_ret (finR_ret ?_)))
        have h10186 := St.pickT (C := [_, _, _, _, _, _, _, _, _, _, _, _, _, _, _, _, _, _, _, _, _, _, _, _, _, _, _, _, _, _]) h10175 [11, 12, 13, 14, 15, 16, 17, 18, 19, 20, 21, 22, 23, 24, 25, 26, 27, 28] (by decide)
        simp only [pick, zfc, zfn, zgz, zgs, zca, zna] at h10186
        refine RetOk.mk (.tmp_bool rfl .nil) ?_
        exact ⟨false, m8131, m8132, m8133, m8135, m8136, m8137, m8139, m8140, m8141, m8142, m8144, m8146, hR, b8130, b8134, b8138, am8142, pm8142, cm8142, Fm8142, am8144, pm8144, cm8144, Fm8144, am8146, pm8146, cm8146, Fm8146, rfl, h10186, hm8142, hm8144, hm8146⟩
      ·
       replace hR := ifF hR hc10128
       refine W.condF (congrArg Value.bool (decide_eq_false hc10128)) ?_
       refine W.seq_k fun _ k10187 => W.regionT [(0, true), (1, true)] (by kernel_rfl) ?_
       refine Plan.cmpP (a := ((script1.getD i_8129 ((0 : Int), (0 : Int), (0 : Int), ([] : List Byte), ([] : List Byte), (fun _ => 0#32), (fun _ => 0#8))).1 : Int)) (b := (2 : Int)) (p := (script1.getD i_8129 ((0 : Int), (0 : Int), (0 : Int), ([] : List Byte), ([] : List Byte), (fun _ => 0#32), (fun _ => 0#8))).1 = 2) rfl rfl rfl rfl icmp_eq ?_
       refine Plan.assign_bool rfl rfl <| Plan.nil (k10187 _ _ ?_); clear k10187
       by_cases hc10188 : (script1.getD i_8129 ((0 : Int), (0 : Int), (0 : Int), ([] : List Byte), ([] : List Byte), (fun _ => 0#32), (fun _ => 0#8))).1 = 2
       ·
        replace hR := ifT hR hc10188
        refine W.condT (congrArg Value.bool (decide_eq_true hc10188)) ?_
        refine W.seq_k fun _ k10189 => ?_
        refine W.regionD FShaExact.mixed [(0, true), (1, true), (2, true), (3, true), (5, true), (6, true), (7, true), (8, true), (4, false), (9, false), (10, true), (11, true)] (by kernel_rfl) ?_
        have h10190 := h10124.drew
        refine Plan.fieldAddr 5 FShaExact.fld52_5 rfl rfl <| Plan.loadA1 h10190 5 rfl rfl rfl FShaExact.agg27 <| Plan.fieldAddr 13 FShaExact.fld52_6 rfl rfl <| Plan.loadA1 h10190 6 rfl rfl rfl FShaExact.agg30 <| Plan.fieldAddr 5 FShaExact.fld52_5 rfl rfl <| Plan.loadA1 h10190 5 rfl rfl rfl FShaExact.agg27 <| Plan.fieldAddr 13 FShaExact.fld52_6 rfl rfl <| Plan.loadA1 h10190 6 rfl rfl rfl FShaExact.agg30 ?_
        obtain ⟨x_10192, hr10191, hR⟩ := hR
        refine Plan.call (vs := [AG [(8, fun q => VU .u32 (((script1.getD i_8129 ((0 : Int), (0 : Int), (0 : Int), ([] : List Byte), ([] : List Byte), (fun _ => 0#32), (fun _ => 0#8))).2.2.2.2.2.1) q))], AG [(64, fun q => VU .u8 (((script1.getD i_8129 ((0 : Int), (0 : Int), (0 : Int), ([] : List Byte), ([] : List Byte), (fun _ => 0#32), (fun _ => 0#8))).2.2.2.2.2.2) q))]]) rfl FShaExact.call20 rfl (sha_Compress_ok (iG0 := iG0 + 25) hG0 hr10191 h10190) ?_
        rintro _ w10193 ⟨rfl, h10193⟩
        refine ⟨_, rfl, .inl ⟨PIn.keep (PIn.cons 6 rfl (PIn.cons 5 rfl (PIn.cons 6 rfl (PIn.cons 5 rfl PIn.nil)))) h10193, ?_⟩⟩
        obtain ⟨x_10195, hr10194, hR⟩ := hR
        refine Plan.call (vs := [AG [(8, fun q => VU .u32 (((script1.getD i_8129 ((0 : Int), (0 : Int), (0 : Int), ([] : List Byte), ([] : List Byte), (fun _ => 0#32), (fun _ => 0#8))).2.2.2.2.2.1) q))], AG [(64, fun q => VU .u8 (((script1.getD i_8129 ((0 : Int), (0 : Int), (0 : Int), ([] : List Byte), ([] : List Byte), (fun _ => 0#32), (fun _ => 0#8))).2.2.2.2.2.2) q))]]) rfl FShaExact.call55 rfl (letheref02_Block_ok (iG2 := iG2 + 25) hG2 hr10194 h10193) ?_
        rintro _ w10196 ⟨rfl, h10196⟩
        refine ⟨_, rfl, .inl ⟨PIn.keep (PIn.cons 6 rfl (PIn.cons 5 rfl (PIn.cons 6 rfl (PIn.cons 5 rfl PIn.nil)))) h10196, ?_⟩⟩
        refine Plan.eqArrV (b := (eqB 8 x_10192 x_10195)) FShaExact.arrI27 rfl rfl rfl rfl <| Plan.assign_bool rfl rfl <| Plan.nil (k10189 _ _ ?_); clear k10189
        refine W.ret (blockR_ret (thenR_ret (finR_ret ?_)))
        have h10197 := St.pickT (C := [_, _, _, _, _, _, _, _, _, _, _, _, _, _, _, _, _, _, _, _, _, _, _, _, _]) h10196 [7, 8, 9, 10, 11, 12, 13, 14, 15, 16, 17, 18, 19, 20, 21, 22, 23, 24] (by decide)
        simp only [pick, zfc, zfn, zgz, zgs, zca, zna] at h10197
        refine RetOk.mk (.tmp_bool rfl .nil) ?_
        exact ⟨(eqB 8 x_10192 x_10195), m8131, m8132, m8133, m8135, m8136, m8137, m8139, m8140, m8141, m8142, m8144, m8146, hR, b8130, b8134, b8138, am8142, pm8142, cm8142, Fm8142, am8144, pm8144, cm8144, Fm8144, am8146, pm8146, cm8146, Fm8146, rfl, h10197, hm8142, hm8144, hm8146⟩
       ·
        replace hR := ifF hR hc10188
        refine W.condF (congrArg Value.bool (decide_eq_false hc10188)) ?_
        refine W.skip ?_
        refine blockR_norm ?_
        refine k10125 _ _ ?_; clear k10125
        refine W.seq_k fun _ k10198 => W.regionT [(0, true), (1, true), (2, false), (3, true)] (by kernel_rfl) ?_
        refine Plan.move_ptr rfl rfl <| Plan.loadA h10124 rfl rfl (.cons 0 rfl (.cons 1 rfl (.cons 2 rfl (.cons 3 rfl (.cons 4 rfl (.cons 5 rfl (.cons 6 rfl .nil))))))) FShaExact.agg52 ?_
        obtain ⟨t11112, m11114, m11115, m11116, m11118, m11119, m11120, m11122, m11123, m11124, m11125, m11126, m11127, hX11128, hR011128⟩ := hR
        refine Plan.call (vs := [.pointer (some ⟨b10, 0, none⟩), AG [(1, fun _ => .int .i64 ((script1.getD i_8129 ((0 : Int), (0 : Int), (0 : Int), ([] : List Byte), ([] : List Byte), (fun _ => 0#32), (fun _ => 0#8))).1)), (1, fun _ => .int .i64 ((script1.getD i_8129 ((0 : Int), (0 : Int), (0 : Int), ([] : List Byte), ([] : List Byte), (fun _ => 0#32), (fun _ => 0#8))).2.1)), (1, fun _ => .int .i64 ((script1.getD i_8129 ((0 : Int), (0 : Int), (0 : Int), ([] : List Byte), ([] : List Byte), (fun _ => 0#32), (fun _ => 0#8))).2.2.1)), (1, fun _ => .slice ((b8179.1).1) (((script1.getD i_8129 ((0 : Int), (0 : Int), (0 : Int), ([] : List Byte), ([] : List Byte), (fun _ => 0#32), (fun _ => 0#8))).2.2.2.1).length) ((b8179.1).2)), (1, fun _ => .slice ((b8179.2).1) (((script1.getD i_8129 ((0 : Int), (0 : Int), (0 : Int), ([] : List Byte), ([] : List Byte), (fun _ => 0#32), (fun _ => 0#8))).2.2.2.2.1).length) ((b8179.2).2)), (8, fun q => VU .u32 (((script1.getD i_8129 ((0 : Int), (0 : Int), (0 : Int), ([] : List Byte), ([] : List Byte), (fun _ => 0#32), (fun _ => 0#8))).2.2.2.2.2.1) q)), (64, fun q => VU .u8 (((script1.getD i_8129 ((0 : Int), (0 : Int), (0 : Int), ([] : List Byte), ([] : List Byte), (fun _ => 0#32), (fun _ => 0#8))).2.2.2.2.2.2) q))]]) (R := fun e w => ∃ y_t11112 : Bool, ∃ y_m11114 : Nat → BitVec 32, ∃ y_m11115 : Nat → BitVec 8, ∃ y_m11116 : Int, ∃ y_m11118 : Nat → BitVec 32, ∃ y_m11119 : Nat → BitVec 8, ∃ y_m11120 : Int, ∃ y_m11122 : Nat → BitVec 32, ∃ y_m11123 : Nat → BitVec 8, ∃ y_m11124 : Int, ∃ y_m11125 : List Byte, ∃ y_m11126 : List Byte, ∃ y_m11127 : List Byte, (t11112 = y_t11112 ∧ m11114 = y_m11114 ∧ m11115 = y_m11115 ∧ m11116 = y_m11116 ∧ m11118 = y_m11118 ∧ m11119 = y_m11119 ∧ m11120 = y_m11120 ∧ m11122 = y_m11122 ∧ m11123 = y_m11123 ∧ m11124 = y_m11124 ∧ m11125 = y_m11125 ∧ m11126 = y_m11126 ∧ m11127 = y_m11127) ∧ ∃ b11113 : Nat, ∃ b11117 : Nat, ∃ b11121 : Nat, ∃ am11125 : Option Addr, ∃ pm11125 : Option Nat, ∃ cm11125 : Nat, ∃ Fm11125 : Nat → Byte, ∃ am11126 : Option Addr, ∃ pm11126 : Option Nat, ∃ cm11126 : Nat, ∃ Fm11126 : Nat → Byte, ∃ am11127 : Option Addr, ∃ pm11127 : Option Nat, ∃ cm11127 : Nat, ∃ Fm11127 : Nat → Byte, e = .returned (.bool y_t11112) ∧ St B w0 (⟨some b11113, 0, 8, fun q => VU .u32 (y_m11114 q), true⟩ :: ⟨some b11113, 8, 64, fun q => VU .u8 (y_m11115 q), true⟩ :: ⟨some b11113, 72, 1, fun _ => .int .i64 y_m11116, true⟩ :: ⟨some b11117, 0, 8, fun q => VU .u32 (y_m11118 q), true⟩ :: ⟨some b11117, 8, 64, fun q => VU .u8 (y_m11119 q), true⟩ :: ⟨some b11117, 72, 1, fun _ => .int .i64 y_m11120, true⟩ :: ⟨some b11121, 0, 8, fun q => VU .u32 (y_m11122 q), true⟩ :: ⟨some b11121, 8, 64, fun q => VU .u8 (y_m11123 q), true⟩ :: ⟨some b11121, 72, 1, fun _ => .int .i64 y_m11124, true⟩ :: ⟨pm11125, 0, cm11125, fun q => VU .u8 (Fm11125 q), true⟩ :: ⟨pm11126, 0, cm11126, fun q => VU .u8 (Fm11126 q), true⟩ :: ⟨pm11127, 0, cm11127, fun q => VU .u8 (Fm11127 q), true⟩ :: ⟨some b10, 0, 1, fun _ => .pointer (some ⟨b11113, 0, none⟩), true⟩ :: ⟨some b10, 1, 1, fun _ => .pointer (some ⟨b11117, 0, none⟩), true⟩ :: ⟨some b10, 2, 1, fun _ => .pointer (some ⟨b11121, 0, none⟩), true⟩ :: ⟨some b10, 3, 1, fun _ => .slice am11125 y_m11125.length cm11125, true⟩ :: ⟨some b10, 4, 1, fun _ => .slice am11126 y_m11126.length cm11126, true⟩ :: ⟨some b10, 5, 1, fun _ => .slice am11127 y_m11127.length cm11127, true⟩ :: L) w ∧ Ow am11125 pm11125 y_m11125.length cm11125 Fm11125 y_m11125 ∧ Ow am11126 pm11126 y_m11126.length cm11126 Fm11126 y_m11126 ∧ Ow am11127 pm11127 y_m11127.length cm11127 Fm11127 y_m11127) rfl FShaExact.call29 rfl ?_ ?_
        ·
         replace hR := hX11128
         refine W.enter 167 Tryd.func29 rfl rfl rfl ?_
         refine W.seq_k fun _ k11129 => W.regionT [(0, false), (1, true)] (by kernel_rfl) ?_
         refine Plan.boxA h10124 rfl rfl PIn.nil fun b11130 w11130 hb11130 h11130 => ?_
         simp only [rngs, Nat.zero_add, Nat.reduceAdd, zca, zna] at h11130
         refine Plan.assign_bool rfl rfl <| Plan.nil (k11129 _ _ ?_); clear k11129
         refine W.seq_k fun _ k11131 => ?_
         refine W.regionD FShaExact.mixed [(0, true), (1, true), (3, true), (4, true), (2, false), (5, false), (6, true), (7, true)] (by kernel_rfl) ?_
         have h11132 := h11130.drew
         refine Plan.fieldAddr 1 FShaExact.fld52_1 rfl rfl <| Plan.load0 h11132 1 rfl rfl rfl (by omega) FShaExact.sc3 <| Plan.fieldAddr 2 FShaExact.fld52_2 rfl rfl <| Plan.load0 h11132 2 rfl rfl rfl (by omega) FShaExact.sc3 ?_
         obtain ⟨x_11134, hr11133, hR⟩ := hR
         refine Plan.call (vs := [.int .i64 ((script1.getD i_8129 ((0 : Int), (0 : Int), (0 : Int), ([] : List Byte), ([] : List Byte), (fun _ => 0#32), (fun _ => 0#8))).2.1), VN 3]) rfl FShaExact.call24 rfl (lethelaw02_rest_ok  hr11133 h11132) ?_
         rintro _ w11135 ⟨rfl, h11135⟩
         refine ⟨_, rfl, .inl ⟨PIn.keep (PIn.cons 2 rfl (PIn.cons 1 rfl PIn.nil)) h11135, ?_⟩⟩
         obtain ⟨x_11137, hr11136, hR⟩ := hR
         refine Plan.call (vs := [.int .i64 ((script1.getD i_8129 ((0 : Int), (0 : Int), (0 : Int), ([] : List Byte), ([] : List Byte), (fun _ => 0#32), (fun _ => 0#8))).2.2.1), VN 3]) rfl FShaExact.call24 rfl (lethelaw02_rest_ok  hr11136 h11135) ?_
         rintro _ w11138 ⟨rfl, h11138⟩
         refine ⟨_, rfl, .inl ⟨PIn.keep (PIn.cons 2 rfl (PIn.cons 1 rfl PIn.nil)) h11138, ?_⟩⟩
         refine Plan.assign_int rfl rfl <| Plan.assign_int rfl rfl <| Plan.nil (k11131 _ _ ?_); clear k11131
         refine W.seq_k fun _ k11139 => ?_
         obtain ⟨ok11584, w_11561, to11562, m11564, m11565, m11566, m11568, m11569, m11570, m11572, m11573, m11574, m11575, m11578, m11581, hX11584, hR011584⟩ := hR
         refine W.cutN (fun e w => ∃ y_w_11561 : Int, ∃ y_to11562 : Int, ∃ y_m11564 : Nat → BitVec 32, ∃ y_m11565 : Nat → BitVec 8, ∃ y_m11566 : Int, ∃ y_m11568 : Nat → BitVec 32, ∃ y_m11569 : Nat → BitVec 8, ∃ y_m11570 : Int, ∃ y_m11572 : Nat → BitVec 32, ∃ y_m11573 : Nat → BitVec 8, ∃ y_m11574 : Int, ∃ y_m11575 : List Byte, ∃ y_m11578 : List Byte, ∃ y_m11581 : List Byte, (ok11584 = true ∧ w_11561 = y_w_11561 ∧ to11562 = y_to11562 ∧ m11564 = y_m11564 ∧ m11565 = y_m11565 ∧ m11566 = y_m11566 ∧ m11568 = y_m11568 ∧ m11569 = y_m11569 ∧ m11570 = y_m11570 ∧ m11572 = y_m11572 ∧ m11573 = y_m11573 ∧ m11574 = y_m11574 ∧ m11575 = y_m11575 ∧ m11578 = y_m11578 ∧ m11581 = y_m11581) ∧ ∃ b11563 : Nat, ∃ b11567 : Nat, ∃ b11571 : Nat, ∃ am11575 : Option Addr, ∃ pm11575 : Option Nat, ∃ cm11575 : Nat, ∃ Fm11575 : Nat → Byte, ∃ am11578 : Option Addr, ∃ pm11578 : Option Nat, ∃ cm11578 : Nat, ∃ Fm11578 : Nat → Byte, ∃ am11581 : Option Addr, ∃ pm11581 : Option Nat, ∃ cm11581 : Nat, ∃ Fm11581 : Nat → Byte, EnvHas e [(0, .pointer (some ⟨b10, 0, none⟩)), (5, .int .i64 y_w_11561), (6, .int .i64 y_to11562)] ∧ St B w0 (⟨some b11563, 0, 8, fun q => VU .u32 (y_m11564 q), true⟩ :: ⟨some b11563, 8, 64, fun q => VU .u8 (y_m11565 q), true⟩ :: ⟨some b11563, 72, 1, fun _ => .int .i64 y_m11566, true⟩ :: ⟨some b11567, 0, 8, fun q => VU .u32 (y_m11568 q), true⟩ :: ⟨some b11567, 8, 64, fun q => VU .u8 (y_m11569 q), true⟩ :: ⟨some b11567, 72, 1, fun _ => .int .i64 y_m11570, true⟩ :: ⟨some b11571, 0, 8, fun q => VU .u32 (y_m11572 q), true⟩ :: ⟨some b11571, 8, 64, fun q => VU .u8 (y_m11573 q), true⟩ :: ⟨some b11571, 72, 1, fun _ => .int .i64 y_m11574, true⟩ :: ⟨pm11575, 0, cm11575, fun q => VU .u8 (Fm11575 q), true⟩ :: ⟨pm11578, 0, cm11578, fun q => VU .u8 (Fm11578 q), true⟩ :: ⟨pm11581, 0, cm11581, fun q => VU .u8 (Fm11581 q), true⟩ :: ⟨some b10, 0, 1, fun _ => .pointer (some ⟨b11563, 0, none⟩), true⟩ :: ⟨some b10, 1, 1, fun _ => .pointer (some ⟨b11567, 0, none⟩), true⟩ :: ⟨some b10, 2, 1, fun _ => .pointer (some ⟨b11571, 0, none⟩), true⟩ :: ⟨some b10, 3, 1, fun _ => .slice am11575 y_m11575.length cm11575, true⟩ :: ⟨some b10, 4, 1, fun _ => .slice am11578 y_m11578.length cm11578, true⟩ :: ⟨some b10, 5, 1, fun _ => .slice am11581 y_m11581.length cm11581, true⟩ :: L) w ∧ Ow am11575 pm11575 y_m11575.length cm11575 Fm11575 y_m11575 ∧ Ow am11578 pm11578 y_m11578.length cm11578 Fm11578 y_m11578 ∧ Ow am11581 pm11581 y_m11581.length cm11581 Fm11581 y_m11581) ?_ ?_
         ·
          replace hR := hX11584
          refine W.seq_k fun _ k11585 => W.regionT [(0, true), (1, true)] (by kernel_rfl) ?_
          refine Plan.fieldAddr0 FShaExact.fld52_0 rfl rfl <| Plan.load0 h11138 0 rfl rfl rfl (by omega) FShaExact.sc3 <| Plan.nil (k11585 _ _ ?_); clear k11585
          refine W.block ?_
          refine W.seq_k fun _ k11586 => W.regionT [(0, true), (1, true)] (by kernel_rfl) ?_
          refine Plan.cmpP (a := ((script1.getD i_8129 ((0 : Int), (0 : Int), (0 : Int), ([] : List Byte), ([] : List Byte), (fun _ => 0#32), (fun _ => 0#8))).1 : Int)) (b := (3 : Int)) (p := (script1.getD i_8129 ((0 : Int), (0 : Int), (0 : Int), ([] : List Byte), ([] : List Byte), (fun _ => 0#32), (fun _ => 0#8))).1 = 3) rfl rfl rfl rfl icmp_eq ?_
          refine Plan.assign_bool rfl rfl <| Plan.nil (k11586 _ _ ?_); clear k11586
          by_cases hc11587 : (script1.getD i_8129 ((0 : Int), (0 : Int), (0 : Int), ([] : List Byte), ([] : List Byte), (fun _ => 0#32), (fun _ => 0#8))).1 = 3
          ·
           replace hR := ifT hR hc11587
           refine W.condT (congrArg Value.bool (decide_eq_true hc11587)) ?_
           refine W.seq_k fun _ k11588 => ?_
           by_cases hc11589 : x_11134 = 0
           ·
            replace hR := ifT hR hc11589
            subst hc11589
            refine W.regionD FShaExact.mixed [(0, true), (1, true), (3, true), (4, true), (2, false), (5, true), (6, false)] (by kernel_rfl) ?_
            have h11590 := h11138.drew
            refine Plan.move_ptr rfl rfl <| Plan.move_int rfl rfl <| Plan.nilCheck rfl rfl <| Plan.fieldAddr0 FShaExact.fld49_0 rfl rfl ?_
            obtain ⟨x_11592, x_11593, x_11594, hr11591, hR⟩ := hR
            refine Plan.call (vs := []) rfl FShaExact.call23 rfl (sha_New_ok (iG1 := iG1 + 32) hG1 hr11591 h11590) ?_
            rintro _ w11596 ⟨b0_11595, rfl, h11596⟩
            refine ⟨_, rfl, .inl ⟨PIn.keep PIn.nil h11596, ?_⟩⟩
            refine Plan.idxArrO (j := 0) (o' := 0) FShaExact.arr46 rfl rfl rfl (by omega) rfl ?_
            refine Plan.storeC h11596 29 rfl rfl rfl rfl rfl FShaExact.sz37 rfl fun w11597 h11597 => ?_
            simp only [zca, zna, zsz, zss] at h11597
            refine Plan.nil (k11588 _ _ ?_); clear k11588
            refine W.regionT [(0, true), (1, true), (2, true), (3, true), (4, true), (5, false)] (by kernel_rfl) ?_
            refine Plan.move_ptr rfl rfl <| Plan.move_int rfl rfl <| Plan.nilCheck rfl rfl <| Plan.fieldAddr 3 FShaExact.fld49_1 rfl rfl <| Plan.idxArrO (j := 0) (o' := 3) FShaExact.arr47 rfl rfl rfl (by omega) rfl ?_
            refine Plan.storeC h11597 32 rfl rfl rfl rfl rfl FShaExact.sz22 rfl fun w11598 h11598 => ?_
            simp only [zca, zna, zsz, zss] at h11598
            refine Plan.nil ?_
            refine blockR_norm ?_
            have h11599 := h11598.nilR
            have h11600 := St.pickT (C := [_, _, _, _, _, _, _, _, _, _, _, _, _, _, _, _, _, _, _, _, _, _, _, _, _, _, _, _, _, _, _, _, _, _, _, _]) h11599 [1, 2, 3, 21, 22, 23, 24, 25, 26, 0, 28, 29, 30, 31, 32, 33, 34, 35] (by decide)
            simp only [pick, zfc, zfn, zgz, zgs, zca, zna] at h11600
            exact ⟨0, x_11137, x_11592, x_11593, ((x_11594 : Nat) : Int), m8135, m8136, m8137, m8139, m8140, m8141, ([] : List Byte), m8144, m8146, hR, b0_11595, b8134, b8138, none, none, 0, (fun _ => 0#8), am8144, pm8144, cm8144, Fm8144, am8146, pm8146, cm8146, Fm8146, (zer (zer (zer zen))), h11600, Ow.nil, hm8144, hm8146⟩
           ·
            replace hR := ifF hR hc11589
            by_cases hc11601 : x_11134 = 1
            ·
             replace hR := ifT hR hc11601
             subst hc11601
             refine W.regionD FShaExact.mixed [(0, true), (1, true), (3, true), (4, true), (2, false), (5, true), (6, false)] (by kernel_rfl) ?_
             have h11602 := h11138.drew
             refine Plan.move_ptr rfl rfl <| Plan.move_int rfl rfl <| Plan.nilCheck rfl rfl <| Plan.fieldAddr0 FShaExact.fld49_0 rfl rfl ?_
             obtain ⟨x_11604, x_11605, x_11606, hr11603, hR⟩ := hR
             refine Plan.call (vs := []) rfl FShaExact.call23 rfl (sha_New_ok (iG1 := iG1 + 32) hG1 hr11603 h11602) ?_
             rintro _ w11608 ⟨b0_11607, rfl, h11608⟩
             refine ⟨_, rfl, .inl ⟨PIn.keep PIn.nil h11608, ?_⟩⟩
             refine Plan.idxArrO (j := 1) (o' := 1) FShaExact.arr46 rfl rfl rfl (by omega) rfl ?_
             refine Plan.storeC h11608 30 rfl rfl rfl rfl rfl FShaExact.sz37 rfl fun w11609 h11609 => ?_
             simp only [zca, zna, zsz, zss] at h11609
             refine Plan.nil (k11588 _ _ ?_); clear k11588
             refine W.regionT [(0, true), (1, true), (2, true), (3, true), (4, true), (5, false)] (by kernel_rfl) ?_
             refine Plan.move_ptr rfl rfl <| Plan.move_int rfl rfl <| Plan.nilCheck rfl rfl <| Plan.fieldAddr 3 FShaExact.fld49_1 rfl rfl <| Plan.idxArrO (j := 1) (o' := 4) FShaExact.arr47 rfl rfl rfl (by omega) rfl ?_
             refine Plan.storeC h11609 33 rfl rfl rfl rfl rfl FShaExact.sz22 rfl fun w11610 h11610 => ?_
             simp only [zca, zna, zsz, zss] at h11610
             refine Plan.nil ?_
             refine blockR_norm ?_
             have h11611 := h11610.nilR
             have h11612 := St.pickT (C := [_, _, _, _, _, _, _, _, _, _, _, _, _, _, _, _, _, _, _, _, _, _, _, _, _, _, _, _, _, _, _, _, _, _, _, _]) h11611 [18, 19, 20, 1, 2, 3, 24, 25, 26, 27, 0, 29, 30, 31, 32, 33, 34, 35] (by decide)
             simp only [pick, zfc, zfn, zgz, zgs, zca, zna] at h11612
             exact ⟨1, x_11137, m8131, m8132, m8133, x_11604, x_11605, ((x_11606 : Nat) : Int), m8139, m8140, m8141, m8142, ([] : List Byte), m8146, hR, b8130, b0_11607, b8138, am8142, pm8142, cm8142, Fm8142, none, none, 0, (fun _ => 0#8), am8146, pm8146, cm8146, Fm8146, (zer (zer (zer zen))), h11612, hm8142, Ow.nil, hm8146⟩
            ·
             replace hR := ifF hR hc11601
             obtain ⟨hc11613, hR⟩ := hR
             subst hc11613
             refine W.regionD FShaExact.mixed [(0, true), (1, true), (3, true), (4, true), (2, false), (5, true), (6, false)] (by kernel_rfl) ?_
             have h11614 := h11138.drew
             refine Plan.move_ptr rfl rfl <| Plan.move_int rfl rfl <| Plan.nilCheck rfl rfl <| Plan.fieldAddr0 FShaExact.fld49_0 rfl rfl ?_
             obtain ⟨x_11616, x_11617, x_11618, hr11615, hR⟩ := hR
             refine Plan.call (vs := []) rfl FShaExact.call23 rfl (sha_New_ok (iG1 := iG1 + 32) hG1 hr11615 h11614) ?_
             rintro _ w11620 ⟨b0_11619, rfl, h11620⟩
             refine ⟨_, rfl, .inl ⟨PIn.keep PIn.nil h11620, ?_⟩⟩
             refine Plan.idxArrO (j := 2) (o' := 2) FShaExact.arr46 rfl rfl rfl (by omega) rfl ?_
             refine Plan.storeC h11620 31 rfl rfl rfl rfl rfl FShaExact.sz37 rfl fun w11621 h11621 => ?_
             simp only [zca, zna, zsz, zss] at h11621
             refine Plan.nil (k11588 _ _ ?_); clear k11588
             refine W.regionT [(0, true), (1, true), (2, true), (3, true), (4, true), (5, false)] (by kernel_rfl) ?_
             refine Plan.move_ptr rfl rfl <| Plan.move_int rfl rfl <| Plan.nilCheck rfl rfl <| Plan.fieldAddr 3 FShaExact.fld49_1 rfl rfl <| Plan.idxArrO (j := 2) (o' := 5) FShaExact.arr47 rfl rfl rfl (by omega) rfl ?_
             refine Plan.storeC h11621 34 rfl rfl rfl rfl rfl FShaExact.sz22 rfl fun w11622 h11622 => ?_
             simp only [zca, zna, zsz, zss] at h11622
             refine Plan.nil ?_
             refine blockR_norm ?_
             have h11623 := h11622.nilR
             have h11624 := St.pickT (C := [_, _, _, _, _, _, _, _, _, _, _, _, _, _, _, _, _, _, _, _, _, _, _, _, _, _, _, _, _, _, _, _, _, _, _, _]) h11623 [18, 19, 20, 21, 22, 23, 1, 2, 3, 27, 28, 0, 30, 31, 32, 33, 34, 35] (by decide)
             simp only [pick, zfc, zfn, zgz, zgs, zca, zna] at h11624
             exact ⟨2, x_11137, m8131, m8132, m8133, m8135, m8136, m8137, x_11616, x_11617, ((x_11618 : Nat) : Int), m8142, m8144, ([] : List Byte), hR, b8130, b8134, b0_11619, am8142, pm8142, cm8142, Fm8142, am8144, pm8144, cm8144, Fm8144, none, none, 0, (fun _ => 0#8), (zer (zer (zer zen))), h11624, hm8142, hm8144, Ow.nil⟩
          ·
           replace hR := ifF hR hc11587
           refine W.condF (congrArg Value.bool (decide_eq_false hc11587)) ?_
           refine W.seq_k fun _ k11625 => W.regionT [(0, true), (1, true)] (by kernel_rfl) ?_
           refine Plan.cmpP (a := ((script1.getD i_8129 ((0 : Int), (0 : Int), (0 : Int), ([] : List Byte), ([] : List Byte), (fun _ => 0#32), (fun _ => 0#8))).1 : Int)) (b := (4 : Int)) (p := (script1.getD i_8129 ((0 : Int), (0 : Int), (0 : Int), ([] : List Byte), ([] : List Byte), (fun _ => 0#32), (fun _ => 0#8))).1 = 4) rfl rfl rfl rfl icmp_eq ?_
           refine Plan.assign_bool rfl rfl <| Plan.nil (k11625 _ _ ?_); clear k11625
           by_cases hc11626 : (script1.getD i_8129 ((0 : Int), (0 : Int), (0 : Int), ([] : List Byte), ([] : List Byte), (fun _ => 0#32), (fun _ => 0#8))).1 = 4
           ·
            replace hR := ifT hR hc11626
            refine W.condT (congrArg Value.bool (decide_eq_true hc11626)) ?_
            refine W.seq_k fun _ k11627 => W.regionT [(0, true), (1, true), (2, false), (3, true)] (by kernel_rfl) ?_
            refine Plan.fieldAddr 3 FShaExact.fld52_3 rfl rfl <| Plan.load0 h11138 3 rfl rfl rfl (by omega) FShaExact.sc22 ?_
            obtain ⟨x_11629, hr11628, hR⟩ := hR
            refine Plan.call (vs := [.slice ((b8179.1).1) (((script1.getD i_8129 ((0 : Int), (0 : Int), (0 : Int), ([] : List Byte), ([] : List Byte), (fun _ => 0#32), (fun _ => 0#8))).2.2.2.1).length) ((b8179.1).2)]) rfl FShaExact.call52 rfl (lethelaw02_Room_ok (hv8179_3.app [_, _, _, _, _, _, _, _, _, _, _, _, _, _, _, _, _, _, _, _, _, _, _, _, _, _, _, _, _, _, _, _]) hr11628 h11138) ?_
            rintro _ w11635 ⟨ay0_11630, py0_11631, ny0_11632, cy0_11633, Fy0_11634, rfl, h11635, hf11635_0⟩
            obtain rfl := hf11635_0.hl
            refine ⟨_, rfl, .inr ⟨rfl, ?_⟩⟩
            refine Plan.assign_slice rfl rfl <| Plan.nil (k11627 _ _ ?_); clear k11627
            refine W.seq_k fun _ k11636 => ?_
            by_cases hc11637 : x_11134 = 0
            ·
             replace hR := ifT hR hc11637
             subst hc11637
             refine W.regionD FShaExact.mixed [(0, true), (1, true), (2, true), (3, true), (4, true), (5, true), (6, true), (7, true), (8, true), (9, true), (10, true), (11, false)] (by kernel_rfl) ?_
             have h11638 := h11635.drew
             refine Plan.move_ptr rfl rfl <| Plan.move_int rfl rfl <| Plan.nilCheck rfl rfl <| Plan.fieldAddr0 FShaExact.fld49_0 rfl rfl <| Plan.idxArrO (j := 0) (o' := 0) FShaExact.arr46 rfl rfl rfl (by omega) rfl <| Plan.load0 h11638 27 rfl rfl rfl (by omega) FShaExact.sc37 <| Plan.move_slice rfl rfl <| Plan.fieldAddr 3 FShaExact.fld52_3 rfl rfl ?_
             refine Plan.load0 h11638 4 rfl rfl rfl (by omega) FShaExact.sc22 <| Plan.len FShaExact.isl22 rfl rfl ?_
             obtain ⟨hc11639, hR⟩ := hR
             have hm11640 := hf11635_0.hc
             refine Plan.slSl (lo := 0) (hi := ((script1.getD i_8129 ((0 : Int), (0 : Int), (0 : Int), ([] : List Byte), ([] : List Byte), (fun _ => 0#32), (fun _ => 0#8))).2.2.2.1).length) FShaExact.sl22 rfl rfl rfl ⟨_, rfl⟩ (by omega) ?_
             have h11641 := St.pickT (C := [_, _, _, _, _, _, _, _, _, _, _, _, _, _, _, _, _, _, _, _, _, _, _, _, _, _, _, _, _, _, _, _, _]) h11638 [15, 16, 17, 0, 1, 2, 3, 4, 5, 6, 7, 8, 9, 10, 11, 12, 13, 14, 18, 19, 20, 21, 22, 23, 24, 25, 26, 27, 28, 29, 30, 31, 32] (by decide)
             simp only [pick, zfc, zfn, zgz, zgs, zca, zna] at h11641
             obtain ⟨x_11643, x_11644, x_11645, hr11642, hR⟩ := hR
             refine Plan.call (vs := [.pointer (some ⟨b8130, 0, none⟩), .slice (if cy0_11633 = 0 then (ay0_11630 : Option Addr) else (ay0_11630 : Option Addr).map (·.add (0 * 1))) (((script1.getD i_8129 ((0 : Int), (0 : Int), (0 : Int), ([] : List Byte), ([] : List Byte), (fun _ => 0#32), (fun _ => 0#8))).2.2.2.1).length - 0) (cy0_11633 - 0)]) rfl FShaExact.call25 rfl (sha_Hash_Write_ok (iG0 := iG0 + 30) hG0 (by exact ((hf11635_0.bx 0 rfl).seg (lo := 0) (hi := ((script1.getD i_8129 ((0 : Int), (0 : Int), (0 : Int), ([] : List Byte), ([] : List Byte), (fun _ => 0#32), (fun _ => 0#8))).2.2.2.1).length) hc11639)) hr11642 h11641) ?_
             rintro _ w11646 ⟨rfl, h11646⟩
             refine ⟨_, rfl, .inl ⟨PIn.keep (PIn.cons 7 rfl (PIn.cons 27 rfl PIn.nil)) h11646, ?_⟩⟩
             refine Plan.nil (k11636 _ _ ?_); clear k11636
             refine W.seq_k fun _ k11647 => ?_
             refine W.regionD FShaExact.mixed [(0, true), (1, true), (2, true), (3, true), (4, true), (5, true), (6, true), (7, true), (9, true), (10, true), (12, true), (13, true), (8, false), (11, false), (14, true), (15, false)] (by kernel_rfl) ?_
             have h11648 := h11646.drew
             refine Plan.move_ptr rfl rfl <| Plan.move_int rfl rfl <| Plan.move_ptr rfl rfl <| Plan.move_int rfl rfl <| Plan.nilCheck rfl rfl <| Plan.fieldAddr 3 FShaExact.fld49_1 rfl rfl <| Plan.idxArrO (j := 0) (o' := 3) FShaExact.arr47 rfl rfl rfl (by omega) rfl <| Plan.load0 h11648 30 rfl rfl rfl (by omega) FShaExact.sc22 ?_
             refine Plan.fieldAddr 3 FShaExact.fld52_3 rfl rfl <| Plan.load0 h11648 7 rfl rfl rfl (by omega) FShaExact.sc22 <| Plan.nilCheck rfl rfl <| Plan.fieldAddr 3 FShaExact.fld49_1 rfl rfl ?_
             have h11649 := h11648.nilR
             obtain ⟨hc11651, hR⟩ := hR
             refine Plan.appendO (X := ([] : List Byte)) (Y := m8142) h11649 0 Ow.nil FShaExact.el22 FShaExact.sl22 rfl rfl rfl rfl (hm8142.bx 25 rfl) hc11651 (fun _ => EffO.mix _ (Filt.keep rfl (Filt.drop rfl Filt.nil)) (PIn.cons 8 rfl PIn.nil)) fun a11650 pb11650 cap11650 F11650 w11650 ho11650 h11650 => ?_
             simp only [zca, zna, zsz, zss] at h11650
             obtain ⟨hc11653, hR⟩ := hR
             refine Plan.appendO (X := (([] : List Byte) ++ m8142)) (Y := ((script1.getD i_8129 ((0 : Int), (0 : Int), (0 : Int), ([] : List Byte), ([] : List Byte), (fun _ => 0#32), (fun _ => 0#8))).2.2.2.1)) h11650 0 ho11650 FShaExact.el22 FShaExact.sl22 rfl rfl rfl rfl (hv8179_3.app [_, _, _, _, _, _, _, _, _, _, _, _, _, _, _, _, _, _, _, _, _, _, _, _, _, _, _, _, _, _, _, _, _, _]) hc11653 (fun _ => EffO.wait rfl) fun a11652 pb11652 cap11652 F11652 w11652 ho11652 h11652 => ?_
             simp only [zca, zna, zsz, zss] at h11652
             refine Plan.idxArrO (j := 0) (o' := 3) FShaExact.arr47 rfl rfl rfl (by omega) rfl ?_
             refine Plan.storeC h11652 31 rfl rfl rfl rfl rfl FShaExact.sz22 rfl fun w11654 h11654 => ?_
             simp only [zca, zna, zsz, zss] at h11654
             refine Plan.nil (k11647 _ _ ?_); clear k11647
             refine W.seq_k fun _ k11655 => W.regionT [(0, true), (1, true), (2, true), (3, false), (4, true)] (by kernel_rfl) ?_
             refine Plan.move_slice rfl rfl <| Plan.fieldAddr 3 FShaExact.fld52_3 rfl rfl <| Plan.load0 h11654 8 rfl rfl rfl (by omega) FShaExact.sc22 ?_
             obtain ⟨x_11657, hr11656, hR⟩ := hR
             refine Plan.call (vs := [.slice ay0_11630 x_11629.length cy0_11633, .slice ((b8179.1).1) (((script1.getD i_8129 ((0 : Int), (0 : Int), (0 : Int), ([] : List Byte), ([] : List Byte), (fun _ => 0#32), (fun _ => 0#8))).2.2.2.1).length) ((b8179.1).2)]) rfl FShaExact.call54 rfl (lethelaw02_Kept_ok (by exact (hf11635_0.bx 4 rfl)) (hv8179_3.app [_, _, _, _, _, _, _, _, _, _, _, _, _, _, _, _, _, _, _, _, _, _, _, _, _, _, _, _, _, _, _, _, _, _]) hr11656 h11654) ?_
             rintro _ w11658 ⟨rfl, h11658⟩
             refine ⟨_, rfl, .inr ⟨rfl, ?_⟩⟩
             refine Plan.assign_bool rfl rfl <| Plan.nil (k11655 _ _ ?_); clear k11655
             refine W.seq_k fun _ k11659 => W.seq_k fun _ k11660 => ?_
             refine W.regionT [(0, true)] (by kernel_rfl) ?_
             refine Plan.assign_int rfl rfl <| Plan.nil (k11660 _ _ ?_); clear k11660
             obtain ⟨hI11679, hR011679⟩ := hR
             refine W.cutN (fun e w => True ∧ EnvHas e [(8, .bool x_11657)] ∧ St B w0 (⟨pb11652, 0, cap11652, fun q => VU .u8 (F11652 q), true⟩ :: ⟨some b8130, 0, 8, fun q => VU .u32 (x_11643 q), true⟩ :: ⟨some b8130, 8, 64, fun q => VU .u8 (x_11644 q), true⟩ :: ⟨some b8130, 72, 1, fun _ => .int .i64 x_11645, true⟩ :: ⟨some b8134, 0, 8, fun q => VU .u32 (m8135 q), true⟩ :: ⟨some b8134, 8, 64, fun q => VU .u8 (m8136 q), true⟩ :: ⟨some b8134, 72, 1, fun _ => .int .i64 m8137, true⟩ :: ⟨some b8138, 0, 8, fun q => VU .u32 (m8139 q), true⟩ :: ⟨some b8138, 8, 64, fun q => VU .u8 (m8140 q), true⟩ :: ⟨some b8138, 72, 1, fun _ => .int .i64 m8141, true⟩ :: ⟨pm8144, 0, cm8144, fun q => VU .u8 (Fm8144 q), true⟩ :: ⟨pm8146, 0, cm8146, fun q => VU .u8 (Fm8146 q), true⟩ :: ⟨some b10, 0, 1, fun _ => .pointer (some ⟨b8130, 0, none⟩), true⟩ :: ⟨some b10, 1, 1, fun _ => .pointer (some ⟨b8134, 0, none⟩), true⟩ :: ⟨some b10, 2, 1, fun _ => .pointer (some ⟨b8138, 0, none⟩), true⟩ :: ⟨some b10, 3, 1, fun _ => .slice a11652 (((([] : List Byte) ++ m8142) ++ ((script1.getD i_8129 ((0 : Int), (0 : Int), (0 : Int), ([] : List Byte), ([] : List Byte), (fun _ => 0#32), (fun _ => 0#8))).2.2.2.1)).length) cap11652, true⟩ :: ⟨some b10, 4, 1, fun _ => .slice am8144 m8144.length cm8144, true⟩ :: ⟨some b10, 5, 1, fun _ => .slice am8146 m8146.length cm8146, true⟩ :: L) w) ?_ ?_
             ·
              refine W.block ?_
              have h11680 := St.pickT (C := [_, _, _, _, _, _, _, _, _, _, _, _, _, _, _, _, _, _, _, _, _, _, _, _, _, _, _, _, _, _, _, _, _, _]) h11658 [4, 0, 1, 2, 3, 19, 20, 21, 22, 23, 24, 26, 27, 28, 29, 30, 31, 32, 33] (by decide)
              simp only [pick, zfc, zfn, zgz, zgs, zca, zna] at h11680
              refine W.iter hI11679 (fun (s11679 : ((List Byte) × Nat)) e w => ∃ ax_11677 : Option Addr, ∃ px_11677 : Option Nat, ∃ cx_11677 : Nat, ∃ Fx_11677 : Nat → Byte, EnvHas e [(7, .slice ax_11677 x_11629.length cx_11677), (8, .bool x_11657), (9, VN s11679.2)] ∧ St B w0 (⟨px_11677, 0, cx_11677, fun q => VU .u8 (Fx_11677 q), true⟩ :: ⟨pb11652, 0, cap11652, fun q => VU .u8 (F11652 q), true⟩ :: ⟨some b8130, 0, 8, fun q => VU .u32 (x_11643 q), true⟩ :: ⟨some b8130, 8, 64, fun q => VU .u8 (x_11644 q), true⟩ :: ⟨some b8130, 72, 1, fun _ => .int .i64 x_11645, true⟩ :: ⟨some b8134, 0, 8, fun q => VU .u32 (m8135 q), true⟩ :: ⟨some b8134, 8, 64, fun q => VU .u8 (m8136 q), true⟩ :: ⟨some b8134, 72, 1, fun _ => .int .i64 m8137, true⟩ :: ⟨some b8138, 0, 8, fun q => VU .u32 (m8139 q), true⟩ :: ⟨some b8138, 8, 64, fun q => VU .u8 (m8140 q), true⟩ :: ⟨some b8138, 72, 1, fun _ => .int .i64 m8141, true⟩ :: ⟨pm8144, 0, cm8144, fun q => VU .u8 (Fm8144 q), true⟩ :: ⟨pm8146, 0, cm8146, fun q => VU .u8 (Fm8146 q), true⟩ :: ⟨some b10, 0, 1, fun _ => .pointer (some ⟨b8130, 0, none⟩), true⟩ :: ⟨some b10, 1, 1, fun _ => .pointer (some ⟨b8134, 0, none⟩), true⟩ :: ⟨some b10, 2, 1, fun _ => .pointer (some ⟨b8138, 0, none⟩), true⟩ :: ⟨some b10, 3, 1, fun _ => .slice a11652 (((([] : List Byte) ++ m8142) ++ ((script1.getD i_8129 ((0 : Int), (0 : Int), (0 : Int), ([] : List Byte), ([] : List Byte), (fun _ => 0#32), (fun _ => 0#8))).2.2.2.1)).length) cap11652, true⟩ :: ⟨some b10, 4, 1, fun _ => .slice am8144 m8144.length cm8144, true⟩ :: ⟨some b10, 5, 1, fun _ => .slice am8146 m8146.length cm8146, true⟩ :: L) w ∧ Ow ax_11677 px_11677 x_11629.length cx_11677 Fx_11677 s11679.1) ⟨ay0_11630, py0_11631, cy0_11633, Fy0_11634, (zer (zer (zer zen))), h11680, hf11635_0⟩ ?_
              rintro ⟨x_11677, i_11678⟩ o11679 hR hx11679 ev11681 wl11681 ⟨ax_11677, px_11677, cx_11677, Fx_11677, he11681, h11681, hx_11677⟩
              obtain ⟨ev11681, rfl⟩ := he11681.open
              unfold lethelaw02_ShaExact_l1 at hR
              refine W.seq_k fun _ k11682 => W.seq_k fun _ k11683 => ?_
              refine W.regionT [(0, true), (1, true), (2, true), (3, true)] (by kernel_rfl) ?_
              refine Plan.move_int rfl rfl <| Plan.move_slice rfl rfl <| Plan.len FShaExact.isl22 rfl rfl <| Plan.cmpP (a := (((i_11678 : Nat) : Int) : Int)) (b := (((x_11629.length : Nat) : Int) : Int)) (p := i_11678 < x_11629.length) rfl rfl rfl rfl icmp_ltN <| Plan.nil (k11683 _ _ ?_); clear k11683
              by_cases hc11684 : i_11678 < x_11629.length
              ·
               replace hR := ifT hR hc11684
               refine W.condT (congrArg Value.bool (decide_eq_true hc11684)) ?_
               refine W.skip ?_
               refine k11682 _ _ ?_; clear k11682
               refine W.seq_k fun _ k11685 => ?_
               refine W.block ?_
               refine W.regionT [(0, true), (1, true), (2, true), (3, false)] (by kernel_rfl) ?_
               refine Plan.move_slice rfl rfl <| Plan.move_int rfl rfl ?_
               obtain ⟨hc11686, hR⟩ := hR
               refine Plan.idxVS (j := i_11678) h11681 (hx_11677.bx 0 rfl) FShaExact.sl22 rfl rfl rfl hc11686 ?_
               refine Plan.storeO (j := i_11678) (Y := 85#8) h11681 0 hx_11677 rfl rfl rfl rfl hc11686 FShaExact.sz5 rfl fun w11687 F11687 ho11687 h11687 => ?_
               simp only [zca, zna, zsz, zss] at h11687
               have e11687 : (x_11677.set i_11678 (85#8)).length = x_11677.length := List.length_set
               refine Plan.nil ?_
               refine blockR_norm ?_
               refine k11685 _ _ ?_; clear k11685
               refine W.regionT [(0, true), (1, true), (2, true)] (by kernel_rfl) ?_
               refine Plan.move_int rfl rfl ?_
               obtain ⟨hc11688, hR⟩ := hR
               refine Plan.addN (a := i_11678) (b := 1) rfl rfl rfl (by omega) <| Plan.assign_int rfl rfl <| Plan.nil ?_
               exact iterR_norm ⟨_, hR, ax_11677, px_11677, cx_11677, F11687, (zer (zer (zer zen))), h11687, (show Ow _ _ x_11629.length _ _ _ from ho11687)⟩
              ·
               replace hR := ifF hR hc11684
               refine W.condF (congrArg Value.bool (decide_eq_false hc11684)) ?_
               refine W.exit (thenR_exit (iterR_exit (blockR_here ?_)))
               have h11689 := St.pickT (C := [_, _, _, _, _, _, _, _, _, _, _, _, _, _, _, _, _, _, _]) h11681 [1, 2, 3, 4, 5, 6, 7, 8, 9, 10, 11, 12, 13, 14, 15, 16, 17, 18] (by decide)
               simp only [pick, zfc, zfn, zgz, zgs, zca, zna] at h11689
               exact ⟨trivial, (zer zen), h11689⟩
             ·
              rintro ev11690 wl11690 ⟨hy11690, he11690, h11690⟩
              obtain ⟨ev11690, rfl⟩ := he11690.open
              replace hR := hR011679
              refine k11659 _ _ ?_; clear k11659
              refine W.seq_k fun _ k11691 => W.regionT [(0, true), (1, true)] (by kernel_rfl) ?_
              refine Plan.move_bool rfl rfl <| Plan.assign_bool rfl rfl <| Plan.nil (k11691 _ _ ?_); clear k11691
              refine W.ret (blockR_ret (thenR_ret (thenR_ret (finR_ret ?_))))
              replace hR := hR.2
              have h11692 := St.pickT (C := [_, _, _, _, _, _, _, _, _, _, _, _, _, _, _, _, _, _]) h11690 [1, 2, 3, 4, 5, 6, 7, 8, 9, 0, 10, 11, 12, 13, 14, 15, 16, 17] (by decide)
              simp only [pick, zfc, zfn, zgz, zgs, zca, zna] at h11692
              refine RetOk.mk (.tmp_bool rfl .nil) ?_
              exact ⟨x_11657, x_11643, x_11644, x_11645, m8135, m8136, m8137, m8139, m8140, m8141, ((([] : List Byte) ++ m8142) ++ ((script1.getD i_8129 ((0 : Int), (0 : Int), (0 : Int), ([] : List Byte), ([] : List Byte), (fun _ => 0#32), (fun _ => 0#8))).2.2.2.1)), m8144, m8146, hR, b8130, b8134, b8138, a11652, pb11652, cap11652, F11652, am8144, pm8144, cm8144, Fm8144, am8146, pm8146, cm8146, Fm8146, rfl, h11692, ho11652, hm8144, hm8146⟩
            ·
             replace hR := ifF hR hc11637
             by_cases hc11693 : x_11134 = 1
             ·
              replace hR := ifT hR hc11693
              subst hc11693
              refine W.regionD FShaExact.mixed [(0, true), (1, true), (2, true), (3, true), (4, true), (5, true), (6, true), (7, true), (8, true), (9, true), (10, true), (11, false)] (by kernel_rfl) ?_
              have h11694 := h11635.drew
              refine Plan.move_ptr rfl rfl <| Plan.move_int rfl rfl <| Plan.nilCheck rfl rfl <| Plan.fieldAddr0 FShaExact.fld49_0 rfl rfl <| Plan.idxArrO (j := 1) (o' := 1) FShaExact.arr46 rfl rfl rfl (by omega) rfl <| Plan.load0 h11694 28 rfl rfl rfl (by omega) FShaExact.sc37 <| Plan.move_slice rfl rfl <| Plan.fieldAddr 3 FShaExact.fld52_3 rfl rfl ?_
              refine Plan.load0 h11694 4 rfl rfl rfl (by omega) FShaExact.sc22 <| Plan.len FShaExact.isl22 rfl rfl ?_
              obtain ⟨hc11695, hR⟩ := hR
              have hm11696 := hf11635_0.hc
              refine Plan.slSl (lo := 0) (hi := ((script1.getD i_8129 ((0 : Int), (0 : Int), (0 : Int), ([] : List Byte), ([] : List Byte), (fun _ => 0#32), (fun _ => 0#8))).2.2.2.1).length) FShaExact.sl22 rfl rfl rfl ⟨_, rfl⟩ (by omega) ?_
              have h11697 := St.pickT (C := [_, _, _, _, _, _, _, _, _, _, _, _, _, _, _, _, _, _, _, _, _, _, _, _, _, _, _, _, _, _, _, _, _]) h11694 [18, 19, 20, 0, 1, 2, 3, 4, 5, 6, 7, 8, 9, 10, 11, 12, 13, 14, 15, 16, 17, 21, 22, 23, 24, 25, 26, 27, 28, 29, 30, 31, 32] (by decide)
              simp only [pick, zfc, zfn, zgz, zgs, zca, zna] at h11697
              obtain ⟨x_11699, x_11700, x_11701, hr11698, hR⟩ := hR
              refine Plan.call (vs := [.pointer (some ⟨b8134, 0, none⟩), .slice (if cy0_11633 = 0 then (ay0_11630 : Option Addr) else (ay0_11630 : Option Addr).map (·.add (0 * 1))) (((script1.getD i_8129 ((0 : Int), (0 : Int), (0 : Int), ([] : List Byte), ([] : List Byte), (fun _ => 0#32), (fun _ => 0#8))).2.2.2.1).length - 0) (cy0_11633 - 0)]) rfl FShaExact.call25 rfl (sha_Hash_Write_ok (iG0 := iG0 + 30) hG0 (by exact ((hf11635_0.bx 0 rfl).seg (lo := 0) (hi := ((script1.getD i_8129 ((0 : Int), (0 : Int), (0 : Int), ([] : List Byte), ([] : List Byte), (fun _ => 0#32), (fun _ => 0#8))).2.2.2.1).length) hc11695)) hr11698 h11697) ?_
              rintro _ w11702 ⟨rfl, h11702⟩
              refine ⟨_, rfl, .inl ⟨PIn.keep (PIn.cons 7 rfl (PIn.cons 28 rfl PIn.nil)) h11702, ?_⟩⟩
              refine Plan.nil (k11636 _ _ ?_); clear k11636
              refine W.seq_k fun _ k11703 => ?_
              refine W.regionD FShaExact.mixed [(0, true), (1, true), (2, true), (3, true), (4, true), (5, true), (6, true), (7, true), (9, true), (10, true), (12, true), (13, true), (8, false), (11, false), (14, true), (15, false)] (by kernel_rfl) ?_
              have h11704 := h11702.drew
              refine Plan.move_ptr rfl rfl <| Plan.move_int rfl rfl <| Plan.move_ptr rfl rfl <| Plan.move_int rfl rfl <| Plan.nilCheck rfl rfl <| Plan.fieldAddr 3 FShaExact.fld49_1 rfl rfl <| Plan.idxArrO (j := 1) (o' := 4) FShaExact.arr47 rfl rfl rfl (by omega) rfl <| Plan.load0 h11704 31 rfl rfl rfl (by omega) FShaExact.sc22 ?_
              refine Plan.fieldAddr 3 FShaExact.fld52_3 rfl rfl <| Plan.load0 h11704 7 rfl rfl rfl (by omega) FShaExact.sc22 <| Plan.nilCheck rfl rfl <| Plan.fieldAddr 3 FShaExact.fld49_1 rfl rfl ?_
              have h11705 := h11704.nilR
              obtain ⟨hc11707, hR⟩ := hR
              refine Plan.appendO (X := ([] : List Byte)) (Y := m8144) h11705 0 Ow.nil FShaExact.el22 FShaExact.sl22 rfl rfl rfl rfl (hm8144.bx 26 rfl) hc11707 (fun _ => EffO.mix _ (Filt.keep rfl (Filt.drop rfl Filt.nil)) (PIn.cons 8 rfl PIn.nil)) fun a11706 pb11706 cap11706 F11706 w11706 ho11706 h11706 => ?_
              simp only [zca, zna, zsz, zss] at h11706
              obtain ⟨hc11709, hR⟩ := hR
              refine Plan.appendO (X := (([] : List Byte) ++ m8144)) (Y := ((script1.getD i_8129 ((0 : Int), (0 : Int), (0 : Int), ([] : List Byte), ([] : List Byte), (fun _ => 0#32), (fun _ => 0#8))).2.2.2.1)) h11706 0 ho11706 FShaExact.el22 FShaExact.sl22 rfl rfl rfl rfl (hv8179_3.app [_, _, _, _, _, _, _, _, _, _, _, _, _, _, _, _, _, _, _, _, _, _, _, _, _, _, _, _, _, _, _, _, _, _]) hc11709 (fun _ => EffO.wait rfl) fun a11708 pb11708 cap11708 F11708 w11708 ho11708 h11708 => ?_
              simp only [zca, zna, zsz, zss] at h11708
              refine Plan.idxArrO (j := 1) (o' := 4) FShaExact.arr47 rfl rfl rfl (by omega) rfl ?_
              refine Plan.storeC h11708 32 rfl rfl rfl rfl rfl FShaExact.sz22 rfl fun w11710 h11710 => ?_
              simp only [zca, zna, zsz, zss] at h11710
              refine Plan.nil (k11703 _ _ ?_); clear k11703
              refine W.seq_k fun _ k11711 => W.regionT [(0, true), (1, true), (2, true), (3, false), (4, true)] (by kernel_rfl) ?_
              refine Plan.move_slice rfl rfl <| Plan.fieldAddr 3 FShaExact.fld52_3 rfl rfl <| Plan.load0 h11710 8 rfl rfl rfl (by omega) FShaExact.sc22 ?_
              obtain ⟨x_11713, hr11712, hR⟩ := hR
              refine Plan.call (vs := [.slice ay0_11630 x_11629.length cy0_11633, .slice ((b8179.1).1) (((script1.getD i_8129 ((0 : Int), (0 : Int), (0 : Int), ([] : List Byte), ([] : List Byte), (fun _ => 0#32), (fun _ => 0#8))).2.2.2.1).length) ((b8179.1).2)]) rfl FShaExact.call54 rfl (lethelaw02_Kept_ok (by exact (hf11635_0.bx 4 rfl)) (hv8179_3.app [_, _, _, _, _, _, _, _, _, _, _, _, _, _, _, _, _, _, _, _, _, _, _, _, _, _, _, _, _, _, _, _, _, _]) hr11712 h11710) ?_
              rintro _ w11714 ⟨rfl, h11714⟩
              refine ⟨_, rfl, .inr ⟨rfl, ?_⟩⟩
              refine Plan.assign_bool rfl rfl <| Plan.nil (k11711 _ _ ?_); clear k11711
              refine W.seq_k fun _ k11715 => W.seq_k fun _ k11716 => ?_
              refine W.regionT [(0, true)] (by kernel_rfl) ?_
              refine Plan.assign_int rfl rfl <| Plan.nil (k11716 _ _ ?_); clear k11716
              obtain ⟨hI11735, hR011735⟩ := hR
              refine W.cutN (fun e w => True ∧ EnvHas e [(8, .bool x_11713)] ∧ St B w0 (⟨pb11708, 0, cap11708, fun q => VU .u8 (F11708 q), true⟩ :: ⟨some b8134, 0, 8, fun q => VU .u32 (x_11699 q), true⟩ :: ⟨some b8134, 8, 64, fun q => VU .u8 (x_11700 q), true⟩ :: ⟨some b8134, 72, 1, fun _ => .int .i64 x_11701, true⟩ :: ⟨some b8130, 0, 8, fun q => VU .u32 (m8131 q), true⟩ :: ⟨some b8130, 8, 64, fun q => VU .u8 (m8132 q), true⟩ :: ⟨some b8130, 72, 1, fun _ => .int .i64 m8133, true⟩ :: ⟨some b8138, 0, 8, fun q => VU .u32 (m8139 q), true⟩ :: ⟨some b8138, 8, 64, fun q => VU .u8 (m8140 q), true⟩ :: ⟨some b8138, 72, 1, fun _ => .int .i64 m8141, true⟩ :: ⟨pm8142, 0, cm8142, fun q => VU .u8 (Fm8142 q), true⟩ :: ⟨pm8146, 0, cm8146, fun q => VU .u8 (Fm8146 q), true⟩ :: ⟨some b10, 0, 1, fun _ => .pointer (some ⟨b8130, 0, none⟩), true⟩ :: ⟨some b10, 1, 1, fun _ => .pointer (some ⟨b8134, 0, none⟩), true⟩ :: ⟨some b10, 2, 1, fun _ => .pointer (some ⟨b8138, 0, none⟩), true⟩ :: ⟨some b10, 3, 1, fun _ => .slice am8142 m8142.length cm8142, true⟩ :: ⟨some b10, 4, 1, fun _ => .slice a11708 (((([] : List Byte) ++ m8144) ++ ((script1.getD i_8129 ((0 : Int), (0 : Int), (0 : Int), ([] : List Byte), ([] : List Byte), (fun _ => 0#32), (fun _ => 0#8))).2.2.2.1)).length) cap11708, true⟩ :: ⟨some b10, 5, 1, fun _ => .slice am8146 m8146.length cm8146, true⟩ :: L) w) ?_ ?_
              ·
               refine W.block ?_
               have h11736 := St.pickT (C := [_, _, _, _, _, _, _, _, _, _, _, _, _, _, _, _, _, _, _, _, _, _, _, _, _, _, _, _, _, _, _, _, _, _]) h11714 [4, 0, 1, 2, 3, 19, 20, 21, 22, 23, 24, 25, 27, 28, 29, 30, 31, 32, 33] (by decide)
               simp only [pick, zfc, zfn, zgz, zgs, zca, zna] at h11736
               refine W.iter hI11735 (fun (s11735 : ((List Byte) × Nat)) e w => ∃ ax_11733 : Option Addr, ∃ px_11733 : Option Nat, ∃ cx_11733 : Nat, ∃ Fx_11733 : Nat → Byte, EnvHas e [(7, .slice ax_11733 x_11629.length cx_11733), (8, .bool x_11713), (9, VN s11735.2)] ∧ St B w0 (⟨px_11733, 0, cx_11733, fun q => VU .u8 (Fx_11733 q), true⟩ :: ⟨pb11708, 0, cap11708, fun q => VU .u8 (F11708 q), true⟩ :: ⟨some b8134, 0, 8, fun q => VU .u32 (x_11699 q), true⟩ :: ⟨some b8134, 8, 64, fun q => VU .u8 (x_11700 q), true⟩ :: ⟨some b8134, 72, 1, fun _ => .int .i64 x_11701, true⟩ :: ⟨some b8130, 0, 8, fun q => VU .u32 (m8131 q), true⟩ :: ⟨some b8130, 8, 64, fun q => VU .u8 (m8132 q), true⟩ :: ⟨some b8130, 72, 1, fun _ => .int .i64 m8133, true⟩ :: ⟨some b8138, 0, 8, fun q => VU .u32 (m8139 q), true⟩ :: ⟨some b8138, 8, 64, fun q => VU .u8 (m8140 q), true⟩ :: ⟨some b8138, 72, 1, fun _ => .int .i64 m8141, true⟩ :: ⟨pm8142, 0, cm8142, fun q => VU .u8 (Fm8142 q), true⟩ :: ⟨pm8146, 0, cm8146, fun q => VU .u8 (Fm8146 q), true⟩ :: ⟨some b10, 0, 1, fun _ => .pointer (some ⟨b8130, 0, none⟩), true⟩ :: ⟨some b10, 1, 1, fun _ => .pointer (some ⟨b8134, 0, none⟩), true⟩ :: ⟨some b10, 2, 1, fun _ => .pointer (some ⟨b8138, 0, none⟩), true⟩ :: ⟨some b10, 3, 1, fun _ => .slice am8142 m8142.length cm8142, true⟩ :: ⟨some b10, 4, 1, fun _ => .slice a11708 (((([] : List Byte) ++ m8144) ++ ((script1.getD i_8129 ((0 : Int), (0 : Int), (0 : Int), ([] : List Byte), ([] : List Byte), (fun _ => 0#32), (fun _ => 0#8))).2.2.2.1)).length) cap11708, true⟩ :: ⟨some b10, 5, 1, fun _ => .slice am8146 m8146.length cm8146, true⟩ :: L) w ∧ Ow ax_11733 px_11733 x_11629.length cx_11733 Fx_11733 s11735.1) ⟨ay0_11630, py0_11631, cy0_11633, Fy0_11634, (zer (zer (zer zen))), h11736, hf11635_0⟩ ?_
               rintro ⟨x_11733, i_11734⟩ o11735 hR hx11735 ev11737 wl11737 ⟨ax_11733, px_11733, cx_11733, Fx_11733, he11737, h11737, hx_11733⟩
               obtain ⟨ev11737, rfl⟩ := he11737.open
               unfold lethelaw02_ShaExact_l2 at hR
               refine W.seq_k fun _ k11738 => W.seq_k fun _ k11739 => ?_
               refine W.regionT [(0, true), (1, true), (2, true), (3, true)] (by kernel_rfl) ?_
               refine Plan.move_int rfl rfl <| Plan.move_slice rfl rfl <| Plan.len FShaExact.isl22 rfl rfl <| Plan.cmpP (a := (((i_11734 : Nat) : Int) : Int)) (b := (((x_11629.length : Nat) : Int) : Int)) (p := i_11734 < x_11629.length) rfl rfl rfl rfl icmp_ltN <| Plan.nil (k11739 _ _ ?_); clear k11739
               by_cases hc11740 : i_11734 < x_11629.length
               ·
                replace hR := ifT hR hc11740
                refine W.condT (congrArg Value.bool (decide_eq_true hc11740)) ?_
                refine W.skip ?_
                refine k11738 _ _ ?_; clear k11738
                refine W.seq_k fun _ k11741 => ?_
                refine W.block ?_
                refine W.regionT [(0, true), (1, true), (2, true), (3, false)] (by kernel_rfl) ?_
                refine Plan.move_slice rfl rfl <| Plan.move_int rfl rfl ?_
                obtain ⟨hc11742, hR⟩ := hR
                refine Plan.idxVS (j := i_11734) h11737 (hx_11733.bx 0 rfl) FShaExact.sl22 rfl rfl rfl hc11742 ?_
                refine Plan.storeO (j := i_11734) (Y := 85#8) h11737 0 hx_11733 rfl rfl rfl rfl hc11742 FShaExact.sz5 rfl fun w11743 F11743 ho11743 h11743 => ?_
                simp only [zca, zna, zsz, zss] at h11743
                have e11743 : (x_11733.set i_11734 (85#8)).length = x_11733.length := List.length_set
                refine Plan.nil ?_
                refine blockR_norm ?_
                refine k11741 _ _ ?_; clear k11741
                refine W.regionT [(0, true), (1, true), (2, true)] (by kernel_rfl) ?_
                refine Plan.move_int rfl rfl ?_
                obtain ⟨hc11744, hR⟩ := hR
                refine Plan.addN (a := i_11734) (b := 1) rfl rfl rfl (by omega) <| Plan.assign_int rfl rfl <| Plan.nil ?_
                exact iterR_norm ⟨_, hR, ax_11733, px_11733, cx_11733, F11743, (zer (zer (zer zen))), h11743, (show Ow _ _ x_11629.length _ _ _ from ho11743)⟩
               ·
                replace hR := ifF hR hc11740
                refine W.condF (congrArg Value.bool (decide_eq_false hc11740)) ?_
                refine W.exit (thenR_exit (iterR_exit (blockR_here ?_)))
                have h11745 := St.pickT (C := [_, _, _, _, _, _, _, _, _, _, _, _, _, _, _, _, _, _, _]) h11737 [1, 2, 3, 4, 5, 6, 7, 8, 9, 10, 11, 12, 13, 14, 15, 16, 17, 18] (by decide)
                simp only [pick, zfc, zfn, zgz, zgs, zca, zna] at h11745
                exact ⟨trivial, (zer zen), h11745⟩
              ·
               rintro ev11746 wl11746 ⟨hy11746, he11746, h11746⟩
               obtain ⟨ev11746, rfl⟩ := he11746.open
               replace hR := hR011735
               refine k11715 _ _ ?_; clear k11715
               refine W.seq_k fun _ k11747 => W.regionT [(0, true), (1, true)] (by kernel_rfl) ?_
               refine Plan.move_bool rfl rfl <| Plan.assign_bool rfl rfl <| Plan.nil (k11747 _ _ ?_); clear k11747
               refine W.ret (blockR_ret (thenR_ret (thenR_ret (finR_ret ?_))))
               replace hR := hR.2
               have h11748 := St.pickT (C := [_, _, _, _, _, _, _, _, _, _, _, _, _, _, _, _, _, _]) h11746 [4, 5, 6, 1, 2, 3, 7, 8, 9, 10, 0, 11, 12, 13, 14, 15, 16, 17] (by decide)
               simp only [pick, zfc, zfn, zgz, zgs, zca, zna] at h11748
               refine RetOk.mk (.tmp_bool rfl .nil) ?_
               exact ⟨x_11713, m8131, m8132, m8133, x_11699, x_11700, x_11701, m8139, m8140, m8141, m8142, ((([] : List Byte) ++ m8144) ++ ((script1.getD i_8129 ((0 : Int), (0 : Int), (0 : Int), ([] : List Byte), ([] : List Byte), (fun _ => 0#32), (fun _ => 0#8))).2.2.2.1)), m8146, hR, b8130, b8134, b8138, am8142, pm8142, cm8142, Fm8142, a11708, pb11708, cap11708, F11708, am8146, pm8146, cm8146, Fm8146, rfl, h11748, hm8142, ho11708, hm8146⟩
             ·
              replace hR := ifF hR hc11693
              obtain ⟨hc11749, hR⟩ := hR
              subst hc11749
              refine W.regionD FShaExact.mixed [(0, true), (1, true), (2, true), (3, true), (4, true), (5, true), (6, true), (7, true), (8, true), (9, true), (10, true), (11, false)] (by kernel_rfl) ?_
              have h11750 := h11635.drew
              refine Plan.move_ptr rfl rfl <| Plan.move_int rfl rfl <| Plan.nilCheck rfl rfl <| Plan.fieldAddr0 FShaExact.fld49_0 rfl rfl <| Plan.idxArrO (j := 2) (o' := 2) FShaExact.arr46 rfl rfl rfl (by omega) rfl <| Plan.load0 h11750 29 rfl rfl rfl (by omega) FShaExact.sc37 <| Plan.move_slice rfl rfl <| Plan.fieldAddr 3 FShaExact.fld52_3 rfl rfl ?_
              refine Plan.load0 h11750 4 rfl rfl rfl (by omega) FShaExact.sc22 <| Plan.len FShaExact.isl22 rfl rfl ?_
              obtain ⟨hc11751, hR⟩ := hR
              have hm11752 := hf11635_0.hc
              refine Plan.slSl (lo := 0) (hi := ((script1.getD i_8129 ((0 : Int), (0 : Int), (0 : Int), ([] : List Byte), ([] : List Byte), (fun _ => 0#32), (fun _ => 0#8))).2.2.2.1).length) FShaExact.sl22 rfl rfl rfl ⟨_, rfl⟩ (by omega) ?_
              have h11753 := St.pickT (C := [_, _, _, _, _, _, _, _, _, _, _, _, _, _, _, _, _, _, _, _, _, _, _, _, _, _, _, _, _, _, _, _, _]) h11750 [21, 22, 23, 0, 1, 2, 3, 4, 5, 6, 7, 8, 9, 10, 11, 12, 13, 14, 15, 16, 17, 18, 19, 20, 24, 25, 26, 27, 28, 29, 30, 31, 32] (by decide)
              simp only [pick, zfc, zfn, zgz, zgs, zca, zna] at h11753
              obtain ⟨x_11755, x_11756, x_11757, hr11754, hR⟩ := hR
              refine Plan.call (vs := [.pointer (some ⟨b8138, 0, none⟩), .slice (if cy0_11633 = 0 then (ay0_11630 : Option Addr) else (ay0_11630 : Option Addr).map (·.add (0 * 1))) (((script1.getD i_8129 ((0 : Int), (0 : Int), (0 : Int), ([] : List Byte), ([] : List Byte), (fun _ => 0#32), (fun _ => 0#8))).2.2.2.1).length - 0) (cy0_11633 - 0)]) rfl FShaExact.call25 rfl (sha_Hash_Write_ok (iG0 := iG0 + 30) hG0 (by exact ((hf11635_0.bx 0 rfl).seg (lo := 0) (hi := ((script1.getD i_8129 ((0 : Int), (0 : Int), (0 : Int), ([] : List Byte), ([] : List Byte), (fun _ => 0#32), (fun _ => 0#8))).2.2.2.1).length) hc11751)) hr11754 h11753) ?_
              rintro _ w11758 ⟨rfl, h11758⟩
              refine ⟨_, rfl, .inl ⟨PIn.keep (PIn.cons 7 rfl (PIn.cons 29 rfl PIn.nil)) h11758, ?_⟩⟩
              refine Plan.nil (k11636 _ _ ?_); clear k11636
              refine W.seq_k fun _ k11759 => ?_
              refine W.regionD FShaExact.mixed [(0, true), (1, true), (2, true), (3, true), (4, true), (5, true), (6, true), (7, true), (9, true), (10, true), (12, true), (13, true), (8, false), (11, false), (14, true), (15, false)] (by kernel_rfl) ?_
              have h11760 := h11758.drew
              refine Plan.move_ptr rfl rfl <| Plan.move_int rfl rfl <| Plan.move_ptr rfl rfl <| Plan.move_int rfl rfl <| Plan.nilCheck rfl rfl <| Plan.fieldAddr 3 FShaExact.fld49_1 rfl rfl <| Plan.idxArrO (j := 2) (o' := 5) FShaExact.arr47 rfl rfl rfl (by omega) rfl <| Plan.load0 h11760 32 rfl rfl rfl (by omega) FShaExact.sc22 ?_
              refine Plan.fieldAddr 3 FShaExact.fld52_3 rfl rfl <| Plan.load0 h11760 7 rfl rfl rfl (by omega) FShaExact.sc22 <| Plan.nilCheck rfl rfl <| Plan.fieldAddr 3 FShaExact.fld49_1 rfl rfl ?_
              have h11761 := h11760.nilR
              obtain ⟨hc11763, hR⟩ := hR
              refine Plan.appendO (X := ([] : List Byte)) (Y := m8146) h11761 0 Ow.nil FShaExact.el22 FShaExact.sl22 rfl rfl rfl rfl (hm8146.bx 27 rfl) hc11763 (fun _ => EffO.mix _ (Filt.keep rfl (Filt.drop rfl Filt.nil)) (PIn.cons 8 rfl PIn.nil)) fun a11762 pb11762 cap11762 F11762 w11762 ho11762 h11762 => ?_
              simp only [zca, zna, zsz, zss] at h11762
              obtain ⟨hc11765, hR⟩ := hR
              refine Plan.appendO (X := (([] : List Byte) ++ m8146)) (Y := ((script1.getD i_8129 ((0 : Int), (0 : Int), (0 : Int), ([] : List Byte), ([] : List Byte), (fun _ => 0#32), (fun _ => 0#8))).2.2.2.1)) h11762 0 ho11762 FShaExact.el22 FShaExact.sl22 rfl rfl rfl rfl (hv8179_3.app [_, _, _, _, _, _, _, _, _, _, _, _, _, _, _, _, _, _, _, _, _, _, _, _, _, _, _, _, _, _, _, _, _, _]) hc11765 (fun _ => EffO.wait rfl) fun a11764 pb11764 cap11764 F11764 w11764 ho11764 h11764 => ?_
              simp only [zca, zna, zsz, zss] at h11764
              refine Plan.idxArrO (j := 2) (o' := 5) FShaExact.arr47 rfl rfl rfl (by omega) rfl ?_
              refine Plan.storeC h11764 33 rfl rfl rfl rfl rfl FShaExact.sz22 rfl fun w11766 h11766 => ?_
              simp only [zca, zna, zsz, zss] at h11766
              refine Plan.nil (k11759 _ _ ?_); clear k11759
              refine W.seq_k fun _ k11767 => W.regionT [(0, true), (1, true), (2, true), (3, false), (4, true)] (by kernel_rfl) ?_
              refine Plan.move_slice rfl rfl <| Plan.fieldAddr 3 FShaExact.fld52_3 rfl rfl <| Plan.load0 h11766 8 rfl rfl rfl (by omega) FShaExact.sc22 ?_
              obtain ⟨x_11769, hr11768, hR⟩ := hR
              refine Plan.call (vs := [.slice ay0_11630 x_11629.length cy0_11633, .slice ((b8179.1).1) (((script1.getD i_8129 ((0 : Int), (0 : Int), (0 : Int), ([] : List Byte), ([] : List Byte), (fun _ => 0#32), (fun _ => 0#8))).2.2.2.1).length) ((b8179.1).2)]) rfl FShaExact.call54 rfl (lethelaw02_Kept_ok (by exact (hf11635_0.bx 4 rfl)) (hv8179_3.app [_, _, _, _, _, _, _, _, _, _, _, _, _, _, _, _, _, _, _, _, _, _, _, _, _, _, _, _, _, _, _, _, _, _]) hr11768 h11766) ?_
              rintro _ w11770 ⟨rfl, h11770⟩
              refine ⟨_, rfl, .inr ⟨rfl, ?_⟩⟩
              refine Plan.assign_bool rfl rfl <| Plan.nil (k11767 _ _ ?_); clear k11767
              refine W.seq_k fun _ k11771 => W.seq_k fun _ k11772 => ?_
              refine W.regionT [(0, true)] (by kernel_rfl) ?_
              refine Plan.assign_int rfl rfl <| Plan.nil (k11772 _ _ ?_); clear k11772
              obtain ⟨hI11791, hR011791⟩ := hR
              refine W.cutN (fun e w => True ∧ EnvHas e [(8, .bool x_11769)] ∧ St B w0 (⟨pb11764, 0, cap11764, fun q => VU .u8 (F11764 q), true⟩ :: ⟨some b8138, 0, 8, fun q => VU .u32 (x_11755 q), true⟩ :: ⟨some b8138, 8, 64, fun q => VU .u8 (x_11756 q), true⟩ :: ⟨some b8138, 72, 1, fun _ => .int .i64 x_11757, true⟩ :: ⟨some b8130, 0, 8, fun q => VU .u32 (m8131 q), true⟩ :: ⟨some b8130, 8, 64, fun q => VU .u8 (m8132 q), true⟩ :: ⟨some b8130, 72, 1, fun _ => .int .i64 m8133, true⟩ :: ⟨some b8134, 0, 8, fun q => VU .u32 (m8135 q), true⟩ :: ⟨some b8134, 8, 64, fun q => VU .u8 (m8136 q), true⟩ :: ⟨some b8134, 72, 1, fun _ => .int .i64 m8137, true⟩ :: ⟨pm8142, 0, cm8142, fun q => VU .u8 (Fm8142 q), true⟩ :: ⟨pm8144, 0, cm8144, fun q => VU .u8 (Fm8144 q), true⟩ :: ⟨some b10, 0, 1, fun _ => .pointer (some ⟨b8130, 0, none⟩), true⟩ :: ⟨some b10, 1, 1, fun _ => .pointer (some ⟨b8134, 0, none⟩), true⟩ :: ⟨some b10, 2, 1, fun _ => .pointer (some ⟨b8138, 0, none⟩), true⟩ :: ⟨some b10, 3, 1, fun _ => .slice am8142 m8142.length cm8142, true⟩ :: ⟨some b10, 4, 1, fun _ => .slice am8144 m8144.length cm8144, true⟩ :: ⟨some b10, 5, 1, fun _ => .slice a11764 (((([] : List Byte) ++ m8146) ++ ((script1.getD i_8129 ((0 : Int), (0 : Int), (0 : Int), ([] : List Byte), ([] : List Byte), (fun _ => 0#32), (fun _ => 0#8))).2.2.2.1)).length) cap11764, true⟩ :: L) w) ?_ ?_
              ·
               refine W.block ?_
               have h11792 := St.pickT (C := [_, _, _, _, _, _, _, _, _, _, _, _, _, _, _, _, _, _, _, _, _, _, _, _, _, _, _, _, _, _, _, _, _, _]) h11770 [4, 0, 1, 2, 3, 19, 20, 21, 22, 23, 24, 25, 26, 28, 29, 30, 31, 32, 33] (by decide)
               simp only [pick, zfc, zfn, zgz, zgs, zca, zna] at h11792
               refine W.iter hI11791 (fun (s11791 : ((List Byte) × Nat)) e w => ∃ ax_11789 : Option Addr, ∃ px_11789 : Option Nat, ∃ cx_11789 : Nat, ∃ Fx_11789 : Nat → Byte, EnvHas e [(7, .slice ax_11789 x_11629.length cx_11789), (8, .bool x_11769), (9, VN s11791.2)] ∧ St B w0 (⟨px_11789, 0, cx_11789, fun q => VU .u8 (Fx_11789 q), true⟩ :: ⟨pb11764, 0, cap11764, fun q => VU .u8 (F11764 q), true⟩ :: ⟨some b8138, 0, 8, fun q => VU .u32 (x_11755 q), true⟩ :: ⟨some b8138, 8, 64, fun q => VU .u8 (x_11756 q), true⟩ :: ⟨some b8138, 72, 1, fun _ => .int .i64 x_11757, true⟩ :: ⟨some b8130, 0, 8, fun q => VU .u32 (m8131 q), true⟩ :: ⟨some b8130, 8, 64, fun q => VU .u8 (m8132 q), true⟩ :: ⟨some b8130, 72, 1, fun _ => .int .i64 m8133, true⟩ :: ⟨some b8134, 0, 8, fun q => VU .u32 (m8135 q), true⟩ :: ⟨some b8134, 8, 64, fun q => VU .u8 (m8136 q), true⟩ :: ⟨some b8134, 72, 1, fun _ => .int .i64 m8137, true⟩ :: ⟨pm8142, 0, cm8142, fun q => VU .u8 (Fm8142 q), true⟩ :: ⟨pm8144, 0, cm8144, fun q => VU .u8 (Fm8144 q), true⟩ :: ⟨some b10, 0, 1, fun _ => .pointer (some ⟨b8130, 0, none⟩), true⟩ :: ⟨some b10, 1, 1, fun _ => .pointer (some ⟨b8134, 0, none⟩), true⟩ :: ⟨some b10, 2, 1, fun _ => .pointer (some ⟨b8138, 0, none⟩), true⟩ :: ⟨some b10, 3, 1, fun _ => .slice am8142 m8142.length cm8142, true⟩ :: ⟨some b10, 4, 1, fun _ => .slice am8144 m8144.length cm8144, true⟩ :: ⟨some b10, 5, 1, fun _ => .slice a11764 (((([] : List Byte) ++ m8146) ++ ((script1.getD i_8129 ((0 : Int), (0 : Int), (0 : Int), ([] : List Byte), ([] : List Byte), (fun _ => 0#32), (fun _ => 0#8))).2.2.2.1)).length) cap11764, true⟩ :: L) w ∧ Ow ax_11789 px_11789 x_11629.length cx_11789 Fx_11789 s11791.1) ⟨ay0_11630, py0_11631, cy0_11633, Fy0_11634, (zer (zer (zer zen))), h11792, hf11635_0⟩ ?_
               rintro ⟨x_11789, i_11790⟩ o11791 hR hx11791 ev11793 wl11793 ⟨ax_11789, px_11789, cx_11789, Fx_11789, he11793, h11793, hx_11789⟩
               obtain ⟨ev11793, rfl⟩ := he11793.open
               unfold lethelaw02_ShaExact_l3 at hR
               refine W.seq_k fun _ k11794 => W.seq_k fun _ k11795 => ?_
               refine W.regionT [(0, true), (1, true), (2, true), (3, true)] (by kernel_rfl) ?_
               refine Plan.move_int rfl rfl <| Plan.move_slice rfl rfl <| Plan.len FShaExact.isl22 rfl rfl <| Plan.cmpP (a := (((i_11790 : Nat) : Int) : Int)) (b := (((x_11629.length : Nat) : Int) : Int)) (p := i_11790 < x_11629.length) rfl rfl rfl rfl icmp_ltN <| Plan.nil (k11795 _ _ ?_); clear k11795
               by_cases hc11796 : i_11790 < x_11629.length
               ·
                replace hR := ifT hR hc11796
                refine W.condT (congrArg Value.bool (decide_eq_true hc11796)) ?_
                refine W.skip ?_
                refine k11794 _ _ ?_; clear k11794
                refine W.seq_k fun _ k11797 => ?_
                refine W.block ?_
                refine W.regionT [(0, true), (1, true), (2, true), (3, false)] (by kernel_rfl) ?_
                refine Plan.move_slice rfl rfl <| Plan.move_int rfl rfl ?_
                obtain ⟨hc11798, hR⟩ := hR
                refine Plan.idxVS (j := i_11790) h11793 (hx_11789.bx 0 rfl) FShaExact.sl22 rfl rfl rfl hc11798 ?_
                refine Plan.storeO (j := i_11790) (Y := 85#8) h11793 0 hx_11789 rfl rfl rfl rfl hc11798 FShaExact.sz5 rfl fun w11799 F11799 ho11799 h11799 => ?_
                simp only [zca, zna, zsz, zss] at h11799
                have e11799 : (x_11789.set i_11790 (85#8)).length = x_11789.length := List.length_set
                refine Plan.nil ?_
                refine blockR_norm ?_
                refine k11797 _ _ ?_; clear k11797
                refine W.regionT [(0, true), (1, true), (2, true)] (by kernel_rfl) ?_
                refine Plan.move_int rfl rfl ?_
                obtain ⟨hc11800, hR⟩ := hR
                refine Plan.addN (a := i_11790) (b := 1) rfl rfl rfl (by omega) <| Plan.assign_int rfl rfl <| Plan.nil ?_
                exact iterR_norm ⟨_, hR, ax_11789, px_11789, cx_11789, F11799, (zer (zer (zer zen))), h11799, (show Ow _ _ x_11629.length _ _ _ from ho11799)⟩
               ·
                replace hR := ifF hR hc11796
                refine W.condF (congrArg Value.bool (decide_eq_false hc11796)) ?_
                refine W.exit (thenR_exit (iterR_exit (blockR_here ?_)))
                have h11801 := St.pickT (C := [_, _, _, _, _, _, _, _, _, _, _, _, _, _, _, _, _, _, _]) h11793 [1, 2, 3, 4, 5, 6, 7, 8, 9, 10, 11, 12, 13, 14, 15, 16, 17, 18] (by decide)
                simp only [pick, zfc, zfn, zgz, zgs, zca, zna] at h11801
                exact ⟨trivial, (zer zen), h11801⟩
              ·
               rintro ev11802 wl11802 ⟨hy11802, he11802, h11802⟩
               obtain ⟨ev11802, rfl⟩ := he11802.open
               replace hR := hR011791
               refine k11771 _ _ ?_; clear k11771
               refine W.seq_k fun _ k11803 => W.regionT [(0, true), (1, true)] (by kernel_rfl) ?_
               refine Plan.move_bool rfl rfl <| Plan.assign_bool rfl rfl <| Plan.nil (k11803 _ _ ?_); clear k11803
               refine W.ret (blockR_ret (thenR_ret (thenR_ret (finR_ret ?_))))
               replace hR := hR.2
               have h11804 := St.pickT (C := [_, _, _, _, _, _, _, _, _, _, _, _, _, _, _, _, _, _]) h11802 [4, 5, 6, 7, 8, 9, 1, 2, 3, 10, 11, 0, 12, 13, 14, 15, 16, 17] (by decide)
               simp only [pick, zfc, zfn, zgz, zgs, zca, zna] at h11804
               refine RetOk.mk (.tmp_bool rfl .nil) ?_
               exact ⟨x_11769, m8131, m8132, m8133, m8135, m8136, m8137, x_11755, x_11756, x_11757, m8142, m8144, ((([] : List Byte) ++ m8146) ++ ((script1.getD i_8129 ((0 : Int), (0 : Int), (0 : Int), ([] : List Byte), ([] : List Byte), (fun _ => 0#32), (fun _ => 0#8))).2.2.2.1)), hR, b8130, b8134, b8138, am8142, pm8142, cm8142, Fm8142, am8144, pm8144, cm8144, Fm8144, a11764, pb11764, cap11764, F11764, rfl, h11804, hm8142, hm8144, ho11764⟩
           ·
            replace hR := ifF hR hc11626
            refine W.condF (congrArg Value.bool (decide_eq_false hc11626)) ?_
            refine W.seq_k fun _ k11805 => W.regionT [(0, true), (1, true)] (by kernel_rfl) ?_
            refine Plan.cmpP (a := ((script1.getD i_8129 ((0 : Int), (0 : Int), (0 : Int), ([] : List Byte), ([] : List Byte), (fun _ => 0#32), (fun _ => 0#8))).1 : Int)) (b := (5 : Int)) (p := (script1.getD i_8129 ((0 : Int), (0 : Int), (0 : Int), ([] : List Byte), ([] : List Byte), (fun _ => 0#32), (fun _ => 0#8))).1 = 5) rfl rfl rfl rfl icmp_eq ?_
            refine Plan.assign_bool rfl rfl <| Plan.nil (k11805 _ _ ?_); clear k11805
            by_cases hc11806 : (script1.getD i_8129 ((0 : Int), (0 : Int), (0 : Int), ([] : List Byte), ([] : List Byte), (fun _ => 0#32), (fun _ => 0#8))).1 = 5
            ·
             replace hR := ifT hR hc11806
             refine W.condT (congrArg Value.bool (decide_eq_true hc11806)) ?_
             refine W.seq_k fun _ k11807 => ?_
             by_cases hc11808 : x_11134 = 0
             ·
              replace hR := ifT hR hc11808
              subst hc11808
              refine W.regionD FShaExact.mixed [(0, true), (1, true), (2, true), (3, true), (4, true), (5, true), (7, true), (8, true), (9, true), (10, true), (11, true), (12, true), (13, true), (6, false), (14, true), (15, true), (16, true), (17, true), (18, true), (19, true), (20, true), (21, true), (23, true), (24, true), (25, true), (26, true), (27, true), (28, true), (22, false), (29, false), (30, true), (31, true), (32, true)] (by kernel_rfl) ?_
              have h11809 := h11138.drew
              refine Plan.move_ptr rfl rfl <| Plan.move_int rfl rfl <| Plan.nilCheck rfl rfl <| Plan.fieldAddr0 FShaExact.fld49_0 rfl rfl <| Plan.idxArrO (j := 0) (o' := 0) FShaExact.arr46 rfl rfl rfl (by omega) rfl <| Plan.load0 h11809 26 rfl rfl rfl (by omega) FShaExact.sc37 <| Plan.move_ptr rfl rfl <| Plan.move_int rfl rfl ?_
              refine Plan.nilCheck rfl rfl <| Plan.fieldAddr 3 FShaExact.fld49_1 rfl rfl <| Plan.idxArrO (j := 0) (o' := 3) FShaExact.arr47 rfl rfl rfl (by omega) rfl <| Plan.load0 h11809 29 rfl rfl rfl (by omega) FShaExact.sc22 <| Plan.len FShaExact.isl22 rfl rfl ?_
              have h11810 := St.pickT (C := [_, _, _, _, _, _, _, _, _, _, _, _, _, _, _, _, _, _, _, _, _, _, _, _, _, _, _, _, _, _, _, _]) h11809 [14, 15, 16, 0, 1, 2, 3, 4, 5, 6, 7, 8, 9, 10, 11, 12, 13, 17, 18, 19, 20, 21, 22, 23, 24, 25, 26, 27, 28, 29, 30, 31] (by decide)
              simp only [pick, zfc, zfn, zgz, zgs, zca, zna] at h11810
              obtain ⟨x_11812, hr11811, hR⟩ := hR
              refine Plan.call (vs := [.pointer (some ⟨b8130, 0, none⟩)]) rfl FShaExact.call26 rfl (sha_Hash_Len_ok  hr11811 h11810) ?_
              rintro _ w11813 ⟨rfl, h11813⟩
              refine ⟨_, rfl, .inl ⟨PIn.keep (PIn.cons 29 rfl (PIn.cons 26 rfl PIn.nil)) h11813, ?_⟩⟩
              by_cases hc11814 : x_11812 = ((m8142.length : Nat) : Int)
              ·
               replace hR := ifT hR hc11814
               refine Plan.cmpV (a := (x_11812 : Int)) (b := (((m8142.length : Nat) : Int) : Int)) (p := x_11812 = ((m8142.length : Nat) : Int)) (v := true) rfl rfl rfl rfl icmp_eq (decide_eq_true hc11814) <| Plan.move_bool rfl rfl <| Plan.move_ptr rfl rfl <| Plan.move_int rfl rfl <| Plan.nilCheck rfl rfl <| Plan.fieldAddr0 FShaExact.fld49_0 rfl rfl <| Plan.idxArrO (j := 0) (o' := 0) FShaExact.arr46 rfl rfl rfl (by omega) rfl <| Plan.load0 h11813 26 rfl rfl rfl (by omega) FShaExact.sc37 ?_
               refine Plan.move_ptr rfl rfl <| Plan.move_int rfl rfl <| Plan.nilCheck rfl rfl <| Plan.fieldAddr 3 FShaExact.fld49_1 rfl rfl <| Plan.idxArrO (j := 0) (o' := 3) FShaExact.arr47 rfl rfl rfl (by omega) rfl <| Plan.load0 h11813 29 rfl rfl rfl (by omega) FShaExact.sc22 ?_
               obtain ⟨x_11816, hr11815, hR⟩ := hR
               refine Plan.call (vs := [.pointer (some ⟨b8130, 0, none⟩)]) rfl FShaExact.call27 rfl (sha_Hash_Sum_ok (iG0 := iG0 + 29) hG0 hr11815 h11813) ?_
               rintro _ w11817 ⟨rfl, h11817⟩
               refine ⟨_, rfl, .inl ⟨PIn.keep (PIn.cons 29 rfl (PIn.cons 26 rfl (PIn.cons 29 rfl (PIn.cons 26 rfl PIn.nil)))) h11817, ?_⟩⟩
               obtain ⟨x_11819, hr11818, hR⟩ := hR
               refine Plan.call (vs := [.slice am8142 m8142.length cm8142]) rfl FShaExact.call53 rfl (letheref02_Sum_ok (iG2 := iG2 + 32) hG2 (iG3 := iG3 + 32) hG3 (by exact (hm8142.bx 23 rfl)) hr11818 h11817) ?_
               rintro _ w11820 ⟨rfl, h11820⟩
               refine ⟨_, rfl, .inl ⟨PIn.keep (PIn.cons 29 rfl (PIn.cons 26 rfl (PIn.cons 29 rfl (PIn.cons 26 rfl PIn.nil)))) h11820, ?_⟩⟩
               refine Plan.eqArrV (b := (eqB 32 x_11816 x_11819)) FShaExact.arrI32 rfl rfl rfl rfl <| Plan.pickTb rfl rfl rfl <| Plan.assign_bool rfl rfl <| Plan.nil (k11807 _ _ ?_); clear k11807
               refine W.ret (blockR_ret (thenR_ret (thenR_ret (finR_ret ?_))))
               replace hR := hR.2
               have h11821 := St.pickT (C := [_, _, _, _, _, _, _, _, _, _, _, _, _, _, _, _, _, _, _, _, _, _, _, _, _, _, _, _, _, _, _, _]) h11820 [0, 1, 2, 17, 18, 19, 20, 21, 22, 23, 24, 25, 26, 27, 28, 29, 30, 31] (by decide)
               simp only [pick, zfc, zfn, zgz, zgs, zca, zna] at h11821
               refine RetOk.mk (.tmp_bool rfl .nil) ?_
               exact ⟨(eqB 32 x_11816 x_11819), m8131, m8132, m8133, m8135, m8136, m8137, m8139, m8140, m8141, m8142, m8144, m8146, hR, b8130, b8134, b8138, am8142, pm8142, cm8142, Fm8142, am8144, pm8144, cm8144, Fm8144, am8146, pm8146, cm8146, Fm8146, rfl, h11821, hm8142, hm8144, hm8146⟩
              ·
               replace hR := ifF hR hc11814
               refine Plan.cmpV (a := (x_11812 : Int)) (b := (((m8142.length : Nat) : Int) : Int)) (p := x_11812 = ((m8142.length : Nat) : Int)) (v := false) rfl rfl rfl rfl icmp_eq (decide_eq_false hc11814) <| Plan.move_bool rfl rfl <| Plan.passed rfl <| Plan.passed rfl <| Plan.passed rfl <| Plan.passed rfl <| Plan.passed rfl <| Plan.passed rfl ?_
               refine Plan.passed rfl <| Plan.passed rfl <| Plan.passed rfl <| Plan.passed rfl <| Plan.passed rfl <| Plan.passed rfl <| Plan.passed rfl <| Plan.passed rfl ?_
               refine Plan.passed rfl <| Plan.pickFb rfl rfl rfl <| Plan.assign_bool rfl rfl <| Plan.nil (k11807 _ _ ?_); clear k11807
               refine W.ret (blockR_ret (thenR_ret (thenR_ret (finR_ret ?_))))
               replace hR := hR.2
               have h11822 := St.pickT (C := [_, _, _, _, _, _, _, _, _, _, _, _, _, _, _, _, _, _, _, _, _, _, _, _, _, _, _, _, _, _, _, _]) h11813 [0, 1, 2, 17, 18, 19, 20, 21, 22, 23, 24, 25, 26, 27, 28, 29, 30, 31] (by decide)
               simp only [pick, zfc, zfn, zgz, zgs, zca, zna] at h11822
               refine RetOk.mk (.tmp_bool rfl .nil) ?_
               exact ⟨false, m8131, m8132, m8133, m8135, m8136, m8137, m8139, m8140, m8141, m8142, m8144, m8146, hR, b8130, b8134, b8138, am8142, pm8142, cm8142, Fm8142, am8144, pm8144, cm8144, Fm8144, am8146, pm8146, cm8146, Fm8146, rfl, h11822, hm8142, hm8144, hm8146⟩
             ·
              replace hR := ifF hR hc11808
              by_cases hc11823 : x_11134 = 1
              ·
               replace hR := ifT hR hc11823
               subst hc11823
               refine W.regionD FShaExact.mixed [(0, true), (1, true), (2, true), (3, true), (4, true), (5, true), (7, true), (8, true), (9, true), (10, true), (11, true), (12, true), (13, true), (6, false), (14, true), (15, true), (16, true), (17, true), (18, true), (19, true), (20, true), (21, true), (23, true), (24, true), (25, true), (26, true), (27, true), (28, true), (22, false), (29, false), (30, true), (31, true), (32, true)] (by kernel_rfl) ?_
               have h11824 := h11138.drew
               refine Plan.move_ptr rfl rfl <| Plan.move_int rfl rfl <| Plan.nilCheck rfl rfl <| Plan.fieldAddr0 FShaExact.fld49_0 rfl rfl <| Plan.idxArrO (j := 1) (o' := 1) FShaExact.arr46 rfl rfl rfl (by omega) rfl <| Plan.load0 h11824 27 rfl rfl rfl (by omega) FShaExact.sc37 <| Plan.move_ptr rfl rfl <| Plan.move_int rfl rfl ?_
               refine Plan.nilCheck rfl rfl <| Plan.fieldAddr 3 FShaExact.fld49_1 rfl rfl <| Plan.idxArrO (j := 1) (o' := 4) FShaExact.arr47 rfl rfl rfl (by omega) rfl <| Plan.load0 h11824 30 rfl rfl rfl (by omega) FShaExact.sc22 <| Plan.len FShaExact.isl22 rfl rfl ?_
               have h11825 := St.pickT (C := [_, _, _, _, _, _, _, _, _, _, _, _, _, _, _, _, _, _, _, _, _, _, _, _, _, _, _, _, _, _, _, _]) h11824 [17, 18, 19, 0, 1, 2, 3, 4, 5, 6, 7, 8, 9, 10, 11, 12, 13, 14, 15, 16, 20, 21, 22, 23, 24, 25, 26, 27, 28, 29, 30, 31] (by decide)
               simp only [pick, zfc, zfn, zgz, zgs, zca, zna] at h11825
               obtain ⟨x_11827, hr11826, hR⟩ := hR
               refine Plan.call (vs := [.pointer (some ⟨b8134, 0, none⟩)]) rfl FShaExact.call26 rfl (sha_Hash_Len_ok  hr11826 h11825) ?_
               rintro _ w11828 ⟨rfl, h11828⟩
               refine ⟨_, rfl, .inl ⟨PIn.keep (PIn.cons 30 rfl (PIn.cons 27 rfl PIn.nil)) h11828, ?_⟩⟩
               by_cases hc11829 : x_11827 = ((m8144.length : Nat) : Int)
               ·
                replace hR := ifT hR hc11829
                refine Plan.cmpV (a := (x_11827 : Int)) (b := (((m8144.length : Nat) : Int) : Int)) (p := x_11827 = ((m8144.length : Nat) : Int)) (v := true) rfl rfl rfl rfl icmp_eq (decide_eq_true hc11829) <| Plan.move_bool rfl rfl <| Plan.move_ptr rfl rfl <| Plan.move_int rfl rfl <| Plan.nilCheck rfl rfl <| Plan.fieldAddr0 FShaExact.fld49_0 rfl rfl <| Plan.idxArrO (j := 1) (o' := 1) FShaExact.arr46 rfl rfl rfl (by omega) rfl <| Plan.load0 h11828 27 rfl rfl rfl (by omega) FShaExact.sc37 ?_
                refine Plan.move_ptr rfl rfl <| Plan.move_int rfl rfl <| Plan.nilCheck rfl rfl <| Plan.fieldAddr 3 FShaExact.fld49_1 rfl rfl <| Plan.idxArrO (j := 1) (o' := 4) FShaExact.arr47 rfl rfl rfl (by omega) rfl <| Plan.load0 h11828 30 rfl rfl rfl (by omega) FShaExact.sc22 ?_
                obtain ⟨x_11831, hr11830, hR⟩ := hR
                refine Plan.call (vs := [.pointer (some ⟨b8134, 0, none⟩)]) rfl FShaExact.call27 rfl (sha_Hash_Sum_ok (iG0 := iG0 + 29) hG0 hr11830 h11828) ?_
                rintro _ w11832 ⟨rfl, h11832⟩
                refine ⟨_, rfl, .inl ⟨PIn.keep (PIn.cons 30 rfl (PIn.cons 27 rfl (PIn.cons 30 rfl (PIn.cons 27 rfl PIn.nil)))) h11832, ?_⟩⟩
                obtain ⟨x_11834, hr11833, hR⟩ := hR
                refine Plan.call (vs := [.slice am8144 m8144.length cm8144]) rfl FShaExact.call53 rfl (letheref02_Sum_ok (iG2 := iG2 + 32) hG2 (iG3 := iG3 + 32) hG3 (by exact (hm8144.bx 24 rfl)) hr11833 h11832) ?_
                rintro _ w11835 ⟨rfl, h11835⟩
                refine ⟨_, rfl, .inl ⟨PIn.keep (PIn.cons 30 rfl (PIn.cons 27 rfl (PIn.cons 30 rfl (PIn.cons 27 rfl PIn.nil)))) h11835, ?_⟩⟩
                refine Plan.eqArrV (b := (eqB 32 x_11831 x_11834)) FShaExact.arrI32 rfl rfl rfl rfl <| Plan.pickTb rfl rfl rfl <| Plan.assign_bool rfl rfl <| Plan.nil (k11807 _ _ ?_); clear k11807
                refine W.ret (blockR_ret (thenR_ret (thenR_ret (finR_ret ?_))))
                replace hR := hR.2
                have h11836 := St.pickT (C := [_, _, _, _, _, _, _, _, _, _, _, _, _, _, _, _, _, _, _, _, _, _, _, _, _, _, _, _, _, _, _, _]) h11835 [17, 18, 19, 0, 1, 2, 20, 21, 22, 23, 24, 25, 26, 27, 28, 29, 30, 31] (by decide)
                simp only [pick, zfc, zfn, zgz, zgs, zca, zna] at h11836
                refine RetOk.mk (.tmp_bool rfl .nil) ?_
                exact ⟨(eqB 32 x_11831 x_11834), m8131, m8132, m8133, m8135, m8136, m8137, m8139, m8140, m8141, m8142, m8144, m8146, hR, b8130, b8134, b8138, am8142, pm8142, cm8142, Fm8142, am8144, pm8144, cm8144, Fm8144, am8146, pm8146, cm8146, Fm8146, rfl, h11836, hm8142, hm8144, hm8146⟩
               ·
                replace hR := ifF hR hc11829
                refine Plan.cmpV (a := (x_11827 : Int)) (b := (((m8144.length : Nat) : Int) : Int)) (p := x_11827 = ((m8144.length : Nat) : Int)) (v := false) rfl rfl rfl rfl icmp_eq (decide_eq_false hc11829) <| Plan.move_bool rfl rfl <| Plan.passed rfl <| Plan.passed rfl <| Plan.passed rfl <| Plan.passed rfl <| Plan.passed rfl <| Plan.passed rfl ?_
                refine Plan.passed rfl <| Plan.passed rfl <| Plan.passed rfl <| Plan.passed rfl <| Plan.passed rfl <| Plan.passed rfl <| Plan.passed rfl <| Plan.passed rfl ?_
                refine Plan.passed rfl <| Plan.pickFb rfl rfl rfl <| Plan.assign_bool rfl rfl <| Plan.nil (k11807 _ _ ?_); clear k11807
                refine W.ret (blockR_ret (thenR_ret (thenR_ret (finR_ret ?_))))
                replace hR := hR.2
                have h11837 := St.pickT (C := [_, _, _, _, _, _, _, _, _, _, _, _, _, _, _, _, _, _, _, _, _, _, _, _, _, _, _, _, _, _, _, _]) h11828 [17, 18, 19, 0, 1, 2, 20, 21, 22, 23, 24, 25, 26, 27, 28, 29, 30, 31] (by decide)
                simp only [pick, zfc, zfn, zgz, zgs, zca, zna] at h11837
                refine RetOk.mk (.tmp_bool rfl .nil) ?_
                exact ⟨false, m8131, m8132, m8133, m8135, m8136, m8137, m8139, m8140, m8141, m8142, m8144, m8146, hR, b8130, b8134, b8138, am8142, pm8142, cm8142, Fm8142, am8144, pm8144, cm8144, Fm8144, am8146, pm8146, cm8146, Fm8146, rfl, h11837, hm8142, hm8144, hm8146⟩
              ·
               replace hR := ifF hR hc11823
               obtain ⟨hc11838, hR⟩ := hR
               subst hc11838
               refine W.regionD FShaExact.mixed [(0, true), (1, true), (2, true), (3, true), (4, true), (5, true), (7, true), (8, true), (9, true), (10, true), (11, true), (12, true), (13, true), (6, false), (14, true), (15, true), (16, true), (17, true), (18, true), (19, true), (20, true), (21, true), (23, true), (24, true), (25, true), (26, true), (27, true), (28, true), (22, false), (29, false), (30, true), (31, true), (32, true)] (by kernel_rfl) ?_
               have h11839 := h11138.drew
               refine Plan.move_ptr rfl rfl <| Plan.move_int rfl rfl <| Plan.nilCheck rfl rfl <| Plan.fieldAddr0 FShaExact.fld49_0 rfl rfl <| Plan.idxArrO (j := 2) (o' := 2) FShaExact.arr46 rfl rfl rfl (by omega) rfl <| Plan.load0 h11839 28 rfl rfl rfl (by omega) FShaExact.sc37 <| Plan.move_ptr rfl rfl <| Plan.move_int rfl rfl ?_
               refine Plan.nilCheck rfl rfl <| Plan.fieldAddr 3 FShaExact.fld49_1 rfl rfl <| Plan.idxArrO (j := 2) (o' := 5) FShaExact.arr47 rfl rfl rfl (by omega) rfl <| Plan.load0 h11839 31 rfl rfl rfl (by omega) FShaExact.sc22 <| Plan.len FShaExact.isl22 rfl rfl ?_
               have h11840 := St.pickT (C := [_, _, _, _, _, _, _, _, _, _, _, _, _, _, _, _, _, _, _, _, _, _, _, _, _, _, _, _, _, _, _, _]) h11839 [20, 21, 22, 0, 1, 2, 3, 4, 5, 6, 7, 8, 9, 10, 11, 12, 13, 14, 15, 16, 17, 18, 19, 23, 24, 25, 26, 27, 28, 29, 30, 31] (by decide)
               simp only [pick, zfc, zfn, zgz, zgs, zca, zna] at h11840
               obtain ⟨x_11842, hr11841, hR⟩ := hR
               refine Plan.call (vs := [.pointer (some ⟨b8138, 0, none⟩)]) rfl FShaExact.call26 rfl (sha_Hash_Len_ok  hr11841 h11840) ?_
               rintro _ w11843 ⟨rfl, h11843⟩
               refine ⟨_, rfl, .inl ⟨PIn.keep (PIn.cons 31 rfl (PIn.cons 28 rfl PIn.nil)) h11843, ?_⟩⟩
               by_cases hc11844 : x_11842 = ((m8146.length : Nat) : Int)
               ·
                replace hR := ifT hR hc11844
                refine Plan.cmpV (a := (x_11842 : Int)) (b := (((m8146.length : Nat) : Int) : Int)) (p := x_11842 = ((m8146.length : Nat) : Int)) (v := true) rfl rfl rfl rfl icmp_eq (decide_eq_true hc11844) <| Plan.move_bool rfl rfl <| Plan.move_ptr rfl rfl <| Plan.move_int rfl rfl <| Plan.nilCheck rfl rfl <| Plan.fieldAddr0 FShaExact.fld49_0 rfl rfl <| Plan.idxArrO (j := 2) (o' := 2) FShaExact.arr46 rfl rfl rfl (by omega) rfl <| Plan.load0 h11843 28 rfl rfl rfl (by omega) FShaExact.sc37 ?_
                refine Plan.move_ptr rfl rfl <| Plan.move_int rfl rfl <| Plan.nilCheck rfl rfl <| Plan.fieldAddr 3 FShaExact.fld49_1 rfl rfl <| Plan.idxArrO (j := 2) (o' := 5) FShaExact.arr47 rfl rfl rfl (by omega) rfl <| Plan.load0 h11843 31 rfl rfl rfl (by omega) FShaExact.sc22 ?_
                obtain ⟨x_11846, hr11845, hR⟩ := hR
                refine Plan.call (vs := [.pointer (some ⟨b8138, 0, none⟩)]) rfl FShaExact.call27 rfl (sha_Hash_Sum_ok (iG0 := iG0 + 29) hG0 hr11845 h11843) ?_
                rintro _ w11847 ⟨rfl, h11847⟩
                refine ⟨_, rfl, .inl ⟨PIn.keep (PIn.cons 31 rfl (PIn.cons 28 rfl (PIn.cons 31 rfl (PIn.cons 28 rfl PIn.nil)))) h11847, ?_⟩⟩
                obtain ⟨x_11849, hr11848, hR⟩ := hR
                refine Plan.call (vs := [.slice am8146 m8146.length cm8146]) rfl FShaExact.call53 rfl (letheref02_Sum_ok (iG2 := iG2 + 32) hG2 (iG3 := iG3 + 32) hG3 (by exact (hm8146.bx 25 rfl)) hr11848 h11847) ?_
                rintro _ w11850 ⟨rfl, h11850⟩
                refine ⟨_, rfl, .inl ⟨PIn.keep (PIn.cons 31 rfl (PIn.cons 28 rfl (PIn.cons 31 rfl (PIn.cons 28 rfl PIn.nil)))) h11850, ?_⟩⟩
                refine Plan.eqArrV (b := (eqB 32 x_11846 x_11849)) FShaExact.arrI32 rfl rfl rfl rfl <| Plan.pickTb rfl rfl rfl <| Plan.assign_bool rfl rfl <| Plan.nil (k11807 _ _ ?_); clear k11807
                refine W.ret (blockR_ret (thenR_ret (thenR_ret (finR_ret ?_))))
                replace hR := hR.2
                have h11851 := St.pickT (C := [_, _, _, _, _, _, _, _, _, _, _, _, _, _, _, _, _, _, _, _, _, _, _, _, _, _, _, _, _, _, _, _]) h11850 [17, 18, 19, 20, 21, 22, 0, 1, 2, 23, 24, 25, 26, 27, 28, 29, 30, 31] (by decide)
                simp only [pick, zfc, zfn, zgz, zgs, zca, zna] at h11851
                refine RetOk.mk (.tmp_bool rfl .nil) ?_
                exact ⟨(eqB 32 x_11846 x_11849), m8131, m8132, m8133, m8135, m8136, m8137, m8139, m8140, m8141, m8142, m8144, m8146, hR, b8130, b8134, b8138, am8142, pm8142, cm8142, Fm8142, am8144, pm8144, cm8144, Fm8144, am8146, pm8146, cm8146, Fm8146, rfl, h11851, hm8142, hm8144, hm8146⟩
               ·
                replace hR := ifF hR hc11844
                refine Plan.cmpV (a := (x_11842 : Int)) (b := (((m8146.length : Nat) : Int) : Int)) (p := x_11842 = ((m8146.length : Nat) : Int)) (v := false) rfl rfl rfl rfl icmp_eq (decide_eq_false hc11844) <| Plan.move_bool rfl rfl <| Plan.passed rfl <| Plan.passed rfl <| Plan.passed rfl <| Plan.passed rfl <| Plan.passed rfl <| Plan.passed rfl ?_
                refine Plan.passed rfl <| Plan.passed rfl <| Plan.passed rfl <| Plan.passed rfl <| Plan.passed rfl <| Plan.passed rfl <| Plan.passed rfl <| Plan.passed rfl ?_
                refine Plan.passed rfl <| Plan.pickFb rfl rfl rfl <| Plan.assign_bool rfl rfl <| Plan.nil (k11807 _ _ ?_); clear k11807
                refine W.ret (blockR_ret (thenR_ret (thenR_ret (finR_ret ?_))))
                replace hR := hR.2
                have h11852 := St.pickT (C := [_, _, _, _, _, _, _, _, _, _, _, _, _, _, _, _, _, _, _, _, _, _, _, _, _, _, _, _, _, _, _, _]) h11843 [17, 18, 19, 20, 21, 22, 0, 1, 2, 23, 24, 25, 26, 27, 28, 29, 30, 31] (by decide)
                simp only [pick, zfc, zfn, zgz, zgs, zca, zna] at h11852
                refine RetOk.mk (.tmp_bool rfl .nil) ?_
                exact ⟨false, m8131, m8132, m8133, m8135, m8136, m8137, m8139, m8140, m8141, m8142, m8144, m8146, hR, b8130, b8134, b8138, am8142, pm8142, cm8142, Fm8142, am8144, pm8144, cm8144, Fm8144, am8146, pm8146, cm8146, Fm8146, rfl, h11852, hm8142, hm8144, hm8146⟩
            ·
             replace hR := ifF hR hc11806
             refine W.condF (congrArg Value.bool (decide_eq_false hc11806)) ?_
             refine W.seq_k fun _ k11853 => W.regionT [(0, true), (1, true)] (by kernel_rfl) ?_
             refine Plan.cmpP (a := ((script1.getD i_8129 ((0 : Int), (0 : Int), (0 : Int), ([] : List Byte), ([] : List Byte), (fun _ => 0#32), (fun _ => 0#8))).1 : Int)) (b := (6 : Int)) (p := (script1.getD i_8129 ((0 : Int), (0 : Int), (0 : Int), ([] : List Byte), ([] : List Byte), (fun _ => 0#32), (fun _ => 0#8))).1 = 6) rfl rfl rfl rfl icmp_eq ?_
             refine Plan.assign_bool rfl rfl <| Plan.nil (k11853 _ _ ?_); clear k11853
             by_cases hc11854 : (script1.getD i_8129 ((0 : Int), (0 : Int), (0 : Int), ([] : List Byte), ([] : List Byte), (fun _ => 0#32), (fun _ => 0#8))).1 = 6
             ·
              replace hR := ifT hR hc11854
              refine W.condT (congrArg Value.bool (decide_eq_true hc11854)) ?_
              refine W.seq_k fun _ k11855 => ?_
              by_cases hc11856 : x_11134 = 0
              ·
               replace hR := ifT hR hc11856
               subst hc11856
               by_cases hc11857 : x_11137 = 0
               ·
                replace hR := ifT hR hc11857
                subst hc11857
                refine W.regionD FShaExact.mixed [(0, true), (1, true), (2, true), (3, true), (4, true), (5, true), (6, true), (7, true), (9, true), (10, true), (8, false), (11, true), (12, false)] (by kernel_rfl) ?_
                have h11858 := h11138.drew
                refine Plan.move_ptr rfl rfl <| Plan.move_int rfl rfl <| Plan.move_ptr rfl rfl <| Plan.move_int rfl rfl <| Plan.nilCheck rfl rfl <| Plan.fieldAddr0 FShaExact.fld49_0 rfl rfl <| Plan.idxArrO (j := 0) (o' := 0) FShaExact.arr46 rfl rfl rfl (by omega) rfl <| Plan.load0 h11858 26 rfl rfl rfl (by omega) FShaExact.sc37 ?_
                refine Plan.nilCheck rfl rfl <| Plan.fieldAddr0 FShaExact.fld49_0 rfl rfl ?_
                have h11859 := St.pickT (C := [_, _, _, _, _, _, _, _, _, _, _, _, _, _, _, _, _, _, _, _, _, _, _, _, _, _, _, _, _, _, _, _]) h11858 [14, 15, 16, 0, 1, 2, 3, 4, 5, 6, 7, 8, 9, 10, 11, 12, 13, 17, 18, 19, 20, 21, 22, 23, 24, 25, 26, 27, 28, 29, 30, 31] (by decide)
                simp only [pick, zfc, zfn, zgz, zgs, zca, zna] at h11859
                obtain ⟨x_11861, x_11862, x_11863, hr11860, hR⟩ := hR
                refine Plan.call (vs := [.pointer (some ⟨b8130, 0, none⟩)]) rfl FShaExact.call30 rfl (sha_Hash_Copy_ok  hr11860 h11859) ?_
                rintro _ w11865 ⟨b0_11864, rfl, h11865⟩
                refine ⟨_, rfl, .inr ⟨rfl, ?_⟩⟩
                refine Plan.idxArrO (j := 0) (o' := 0) FShaExact.arr46 rfl rfl rfl (by omega) rfl ?_
                refine Plan.storeC h11865 29 rfl rfl rfl rfl rfl FShaExact.sz37 rfl fun w11866 h11866 => ?_
                simp only [zca, zna, zsz, zss] at h11866
                refine Plan.nil (k11855 _ _ ?_); clear k11855
                refine W.regionD FShaExact.mixed [(0, true), (1, true), (2, true), (3, true), (4, true), (5, true), (6, true), (7, true), (9, true), (10, true), (8, false), (11, true), (12, false)] (by kernel_rfl) ?_
                have h11867 := h11866.drew
                refine Plan.move_ptr rfl rfl <| Plan.move_int rfl rfl <| Plan.move_ptr rfl rfl <| Plan.move_int rfl rfl <| Plan.nilCheck rfl rfl <| Plan.fieldAddr 3 FShaExact.fld49_1 rfl rfl <| Plan.idxArrO (j := 0) (o' := 3) FShaExact.arr47 rfl rfl rfl (by omega) rfl <| Plan.load0 h11867 32 rfl rfl rfl (by omega) FShaExact.sc22 ?_
                refine Plan.nilCheck rfl rfl <| Plan.fieldAddr 3 FShaExact.fld49_1 rfl rfl ?_
                have h11868 := h11867.nilR
                obtain ⟨hc11870, hR⟩ := hR
                refine Plan.appendO (X := ([] : List Byte)) (Y := m8142) h11868 0 Ow.nil FShaExact.el22 FShaExact.sl22 rfl rfl rfl rfl (hm8142.bx 27 rfl) hc11870 (fun _ => EffO.wait rfl) fun a11869 pb11869 cap11869 F11869 w11869 ho11869 h11869 => ?_
                simp only [zca, zna, zsz, zss] at h11869
                refine Plan.idxArrO (j := 0) (o' := 3) FShaExact.arr47 rfl rfl rfl (by omega) rfl ?_
                refine Plan.storeC h11869 33 rfl rfl rfl rfl rfl FShaExact.sz22 rfl fun w11871 h11871 => ?_
                simp only [zca, zna, zsz, zss] at h11871
                refine Plan.nil ?_
                refine blockR_norm ?_
                have h11872 := St.pickT (C := [_, _, _, _, _, _, _, _, _, _, _, _, _, _, _, _, _, _, _, _, _, _, _, _, _, _, _, _, _, _, _, _, _, _, _, _]) h11871 [1, 2, 3, 21, 22, 23, 24, 25, 26, 0, 28, 29, 30, 31, 32, 33, 34, 35] (by decide)
                simp only [pick, zfc, zfn, zgz, zgs, zca, zna] at h11872
                exact ⟨0, 0, x_11861, x_11862, x_11863, m8135, m8136, m8137, m8139, m8140, m8141, (([] : List Byte) ++ m8142), m8144, m8146, hR, b0_11864, b8134, b8138, a11869, pb11869, cap11869, F11869, am8144, pm8144, cm8144, Fm8144, am8146, pm8146, cm8146, Fm8146, (zer (zer (zer zen))), h11872, ho11869, hm8144, hm8146⟩
               ·
                replace hR := ifF hR hc11857
                by_cases hc11873 : x_11137 = 1
                ·
                 replace hR := ifT hR hc11873
                 subst hc11873
                 refine W.regionD FShaExact.mixed [(0, true), (1, true), (2, true), (3, true), (4, true), (5, true), (6, true), (7, true), (9, true), (10, true), (8, false), (11, true), (12, false)] (by kernel_rfl) ?_
                 have h11874 := h11138.drew
                 refine Plan.move_ptr rfl rfl <| Plan.move_int rfl rfl <| Plan.move_ptr rfl rfl <| Plan.move_int rfl rfl <| Plan.nilCheck rfl rfl <| Plan.fieldAddr0 FShaExact.fld49_0 rfl rfl <| Plan.idxArrO (j := 0) (o' := 0) FShaExact.arr46 rfl rfl rfl (by omega) rfl <| Plan.load0 h11874 26 rfl rfl rfl (by omega) FShaExact.sc37 ?_
                 refine Plan.nilCheck rfl rfl <| Plan.fieldAddr0 FShaExact.fld49_0 rfl rfl ?_
                 have h11875 := St.pickT (C := [_, _, _, _, _, _, _, _, _, _, _, _, _, _, _, _, _, _, _, _, _, _, _, _, _, _, _, _, _, _, _, _]) h11874 [14, 15, 16, 0, 1, 2, 3, 4, 5, 6, 7, 8, 9, 10, 11, 12, 13, 17, 18, 19, 20, 21, 22, 23, 24, 25, 26, 27, 28, 29, 30, 31] (by decide)
                 simp only [pick, zfc, zfn, zgz, zgs, zca, zna] at h11875
                 obtain ⟨x_11877, x_11878, x_11879, hr11876, hR⟩ := hR
                 refine Plan.call (vs := [.pointer (some ⟨b8130, 0, none⟩)]) rfl FShaExact.call30 rfl (sha_Hash_Copy_ok  hr11876 h11875) ?_
                 rintro _ w11881 ⟨b0_11880, rfl, h11881⟩
                 refine ⟨_, rfl, .inr ⟨rfl, ?_⟩⟩
                 refine Plan.idxArrO (j := 1) (o' := 1) FShaExact.arr46 rfl rfl rfl (by omega) rfl ?_
                 refine Plan.storeC h11881 30 rfl rfl rfl rfl rfl FShaExact.sz37 rfl fun w11882 h11882 => ?_
                 simp only [zca, zna, zsz, zss] at h11882
                 refine Plan.nil (k11855 _ _ ?_); clear k11855
                 refine W.regionD FShaExact.mixed [(0, true), (1, true), (2, true), (3, true), (4, true), (5, true), (6, true), (7, true), (9, true), (10, true), (8, false), (11, true), (12, false)] (by kernel_rfl) ?_
                 have h11883 := h11882.drew
                 refine Plan.move_ptr rfl rfl <| Plan.move_int rfl rfl <| Plan.move_ptr rfl rfl <| Plan.move_int rfl rfl <| Plan.nilCheck rfl rfl <| Plan.fieldAddr 3 FShaExact.fld49_1 rfl rfl <| Plan.idxArrO (j := 0) (o' := 3) FShaExact.arr47 rfl rfl rfl (by omega) rfl <| Plan.load0 h11883 32 rfl rfl rfl (by omega) FShaExact.sc22 ?_
                 refine Plan.nilCheck rfl rfl <| Plan.fieldAddr 3 FShaExact.fld49_1 rfl rfl ?_
                 have h11884 := h11883.nilR
                 obtain ⟨hc11886, hR⟩ := hR
                 refine Plan.appendO (X := ([] : List Byte)) (Y := m8142) h11884 0 Ow.nil FShaExact.el22 FShaExact.sl22 rfl rfl rfl rfl (hm8142.bx 27 rfl) hc11886 (fun _ => EffO.wait rfl) fun a11885 pb11885 cap11885 F11885 w11885 ho11885 h11885 => ?_
                 simp only [zca, zna, zsz, zss] at h11885
                 refine Plan.idxArrO (j := 1) (o' := 4) FShaExact.arr47 rfl rfl rfl (by omega) rfl ?_
                 refine Plan.storeC h11885 34 rfl rfl rfl rfl rfl FShaExact.sz22 rfl fun w11887 h11887 => ?_
                 simp only [zca, zna, zsz, zss] at h11887
                 refine Plan.nil ?_
                 refine blockR_norm ?_
                 have h11888 := St.pickT (C := [_, _, _, _, _, _, _, _, _, _, _, _, _, _, _, _, _, _, _, _, _, _, _, _, _, _, _, _, _, _, _, _, _, _, _, _]) h11887 [4, 5, 6, 1, 2, 3, 24, 25, 26, 27, 0, 29, 30, 31, 32, 33, 34, 35] (by decide)
                 simp only [pick, zfc, zfn, zgz, zgs, zca, zna] at h11888
                 exact ⟨0, 1, m8131, m8132, m8133, x_11877, x_11878, x_11879, m8139, m8140, m8141, m8142, (([] : List Byte) ++ m8142), m8146, hR, b8130, b0_11880, b8138, am8142, pm8142, cm8142, Fm8142, a11885, pb11885, cap11885, F11885, am8146, pm8146, cm8146, Fm8146, (zer (zer (zer zen))), h11888, hm8142, ho11885, hm8146⟩
                ·
                 replace hR := ifF hR hc11873
                 obtain ⟨hc11889, hR⟩ := hR
                 subst hc11889
                 refine W.regionD FShaExact.mixed [(0, true), (1, true), (2, true), (3, true), (4, true), (5, true), (6, true), (7, true), (9, true), (10, true), (8, false), (11, true), (12, false)] (by kernel_rfl) ?_
                 have h11890 := h11138.drew
                 refine Plan.move_ptr rfl rfl <| Plan.move_int rfl rfl <| Plan.move_ptr rfl rfl <| Plan.move_int rfl rfl <| Plan.nilCheck rfl rfl <| Plan.fieldAddr0 FShaExact.fld49_0 rfl rfl <| Plan.idxArrO (j := 0) (o' := 0) FShaExact.arr46 rfl rfl rfl (by omega) rfl <| Plan.load0 h11890 26 rfl rfl rfl (by omega) FShaExact.sc37 ?_
                 refine Plan.nilCheck rfl rfl <| Plan.fieldAddr0 FShaExact.fld49_0 rfl rfl ?_
                 have h11891 := St.pickT (C := [_, _, _, _, _, _, _, _, _, _, _, _, _, _, _, _, _, _, _, _, _, _, _, _, _, _, _, _, _, _, _, _]) h11890 [14, 15, 16, 0, 1, 2, 3, 4, 5, 6, 7, 8, 9, 10, 11, 12, 13, 17, 18, 19, 20, 21, 22, 23, 24, 25, 26, 27, 28, 29, 30, 31] (by decide)
                 simp only [pick, zfc, zfn, zgz, zgs, zca, zna] at h11891
                 obtain ⟨x_11893, x_11894, x_11895, hr11892, hR⟩ := hR
                 refine Plan.call (vs := [.pointer (some ⟨b8130, 0, none⟩)]) rfl FShaExact.call30 rfl (sha_Hash_Copy_ok  hr11892 h11891) ?_
                 rintro _ w11897 ⟨b0_11896, rfl, h11897⟩
                 refine ⟨_, rfl, .inr ⟨rfl, ?_⟩⟩
                 refine Plan.idxArrO (j := 2) (o' := 2) FShaExact.arr46 rfl rfl rfl (by omega) rfl ?_
                 refine Plan.storeC h11897 31 rfl rfl rfl rfl rfl FShaExact.sz37 rfl fun w11898 h11898 => ?_
                 simp only [zca, zna, zsz, zss] at h11898
                 refine Plan.nil (k11855 _ _ ?_); clear k11855
                 refine W.regionD FShaExact.mixed [(0, true), (1, true), (2, true), (3, true), (4, true), (5, true), (6, true), (7, true), (9, true), (10, true), (8, false), (11, true), (12, false)] (by kernel_rfl) ?_
                 have h11899 := h11898.drew
                 refine Plan.move_ptr rfl rfl <| Plan.move_int rfl rfl <| Plan.move_ptr rfl rfl <| Plan.move_int rfl rfl <| Plan.nilCheck rfl rfl <| Plan.fieldAddr 3 FShaExact.fld49_1 rfl rfl <| Plan.idxArrO (j := 0) (o' := 3) FShaExact.arr47 rfl rfl rfl (by omega) rfl <| Plan.load0 h11899 32 rfl rfl rfl (by omega) FShaExact.sc22 ?_
                 refine Plan.nilCheck rfl rfl <| Plan.fieldAddr 3 FShaExact.fld49_1 rfl rfl ?_
                 have h11900 := h11899.nilR
                 obtain ⟨hc11902, hR⟩ := hR
                 refine Plan.appendO (X := ([] : List Byte)) (Y := m8142) h11900 0 Ow.nil FShaExact.el22 FShaExact.sl22 rfl rfl rfl rfl (hm8142.bx 27 rfl) hc11902 (fun _ => EffO.wait rfl) fun a11901 pb11901 cap11901 F11901 w11901 ho11901 h11901 => ?_
                 simp only [zca, zna, zsz, zss] at h11901
                 refine Plan.idxArrO (j := 2) (o' := 5) FShaExact.arr47 rfl rfl rfl (by omega) rfl ?_
                 refine Plan.storeC h11901 35 rfl rfl rfl rfl rfl FShaExact.sz22 rfl fun w11903 h11903 => ?_
                 simp only [zca, zna, zsz, zss] at h11903
                 refine Plan.nil ?_
                 refine blockR_norm ?_
                 have h11904 := St.pickT (C := [_, _, _, _, _, _, _, _, _, _, _, _, _, _, _, _, _, _, _, _, _, _, _, _, _, _, _, _, _, _, _, _, _, _, _, _]) h11903 [4, 5, 6, 21, 22, 23, 1, 2, 3, 27, 28, 0, 30, 31, 32, 33, 34, 35] (by decide)
                 simp only [pick, zfc, zfn, zgz, zgs, zca, zna] at h11904
                 exact ⟨0, 2, m8131, m8132, m8133, m8135, m8136, m8137, x_11893, x_11894, x_11895, m8142, m8144, (([] : List Byte) ++ m8142), hR, b8130, b8134, b0_11896, am8142, pm8142, cm8142, Fm8142, am8144, pm8144, cm8144, Fm8144, a11901, pb11901, cap11901, F11901, (zer (zer (zer zen))), h11904, hm8142, hm8144, ho11901⟩
              ·
               replace hR := ifF hR hc11856
               by_cases hc11905 : x_11134 = 1
               ·
                replace hR := ifT hR hc11905
                subst hc11905
                by_cases hc11906 : x_11137 = 0
                ·
                 replace hR := ifT hR hc11906
                 subst hc11906
                 refine W.regionD FShaExact.mixed [(0, true), (1, true), (2, true), (3, true), (4, true), (5, true), (6, true), (7, true), (9, true), (10, true), (8, false), (11, true), (12, false)] (by kernel_rfl) ?_
                 have h11907 := h11138.drew
                 refine Plan.move_ptr rfl rfl <| Plan.move_int rfl rfl <| Plan.move_ptr rfl rfl <| Plan.move_int rfl rfl <| Plan.nilCheck rfl rfl <| Plan.fieldAddr0 FShaExact.fld49_0 rfl rfl <| Plan.idxArrO (j := 1) (o' := 1) FShaExact.arr46 rfl rfl rfl (by omega) rfl <| Plan.load0 h11907 27 rfl rfl rfl (by omega) FShaExact.sc37 ?_
                 refine Plan.nilCheck rfl rfl <| Plan.fieldAddr0 FShaExact.fld49_0 rfl rfl ?_
                 have h11908 := St.pickT (C := [_, _, _, _, _, _, _, _, _, _, _, _, _, _, _, _, _, _, _, _, _, _, _, _, _, _, _, _, _, _, _, _]) h11907 [17, 18, 19, 0, 1, 2, 3, 4, 5, 6, 7, 8, 9, 10, 11, 12, 13, 14, 15, 16, 20, 21, 22, 23, 24, 25, 26, 27, 28, 29, 30, 31] (by decide)
                 simp only [pick, zfc, zfn, zgz, zgs, zca, zna] at h11908
                 obtain ⟨x_11910, x_11911, x_11912, hr11909, hR⟩ := hR
                 refine Plan.call (vs := [.pointer (some ⟨b8134, 0, none⟩)]) rfl FShaExact.call30 rfl (sha_Hash_Copy_ok  hr11909 h11908) ?_
                 rintro _ w11914 ⟨b0_11913, rfl, h11914⟩
                 refine ⟨_, rfl, .inr ⟨rfl, ?_⟩⟩
                 refine Plan.idxArrO (j := 0) (o' := 0) FShaExact.arr46 rfl rfl rfl (by omega) rfl ?_
                 refine Plan.storeC h11914 29 rfl rfl rfl rfl rfl FShaExact.sz37 rfl fun w11915 h11915 => ?_
                 simp only [zca, zna, zsz, zss] at h11915
                 refine Plan.nil (k11855 _ _ ?_); clear k11855
                 refine W.regionD FShaExact.mixed [(0, true), (1, true), (2, true), (3, true), (4, true), (5, true), (6, true), (7, true), (9, true), (10, true), (8, false), (11, true), (12, false)] (by kernel_rfl) ?_
                 have h11916 := h11915.drew
                 refine Plan.move_ptr rfl rfl <| Plan.move_int rfl rfl <| Plan.move_ptr rfl rfl <| Plan.move_int rfl rfl <| Plan.nilCheck rfl rfl <| Plan.fieldAddr 3 FShaExact.fld49_1 rfl rfl <| Plan.idxArrO (j := 1) (o' := 4) FShaExact.arr47 rfl rfl rfl (by omega) rfl <| Plan.load0 h11916 33 rfl rfl rfl (by omega) FShaExact.sc22 ?_
                 refine Plan.nilCheck rfl rfl <| Plan.fieldAddr 3 FShaExact.fld49_1 rfl rfl ?_
                 have h11917 := h11916.nilR
                 obtain ⟨hc11919, hR⟩ := hR
                 refine Plan.appendO (X := ([] : List Byte)) (Y := m8144) h11917 0 Ow.nil FShaExact.el22 FShaExact.sl22 rfl rfl rfl rfl (hm8144.bx 28 rfl) hc11919 (fun _ => EffO.wait rfl) fun a11918 pb11918 cap11918 F11918 w11918 ho11918 h11918 => ?_
                 simp only [zca, zna, zsz, zss] at h11918
                 refine Plan.idxArrO (j := 0) (o' := 3) FShaExact.arr47 rfl rfl rfl (by omega) rfl ?_
                 refine Plan.storeC h11918 33 rfl rfl rfl rfl rfl FShaExact.sz22 rfl fun w11920 h11920 => ?_
                 simp only [zca, zna, zsz, zss] at h11920
                 refine Plan.nil ?_
                 refine blockR_norm ?_
                 have h11921 := St.pickT (C := [_, _, _, _, _, _, _, _, _, _, _, _, _, _, _, _, _, _, _, _, _, _, _, _, _, _, _, _, _, _, _, _, _, _, _, _]) h11920 [1, 2, 3, 4, 5, 6, 24, 25, 26, 0, 28, 29, 30, 31, 32, 33, 34, 35] (by decide)
                 simp only [pick, zfc, zfn, zgz, zgs, zca, zna] at h11921
                 exact ⟨1, 0, x_11910, x_11911, x_11912, m8135, m8136, m8137, m8139, m8140, m8141, (([] : List Byte) ++ m8144), m8144, m8146, hR, b0_11913, b8134, b8138, a11918, pb11918, cap11918, F11918, am8144, pm8144, cm8144, Fm8144, am8146, pm8146, cm8146, Fm8146, (zer (zer (zer zen))), h11921, ho11918, hm8144, hm8146⟩
                ·
                 replace hR := ifF hR hc11906
                 by_cases hc11922 : x_11137 = 1
                 ·
                  replace hR := ifT hR hc11922
                  subst hc11922
                  refine W.regionD FShaExact.mixed [(0, true), (1, true), (2, true), (3, true), (4, true), (5, true), (6, true), (7, true), (9, true), (10, true), (8, false), (11, true), (12, false)] (by kernel_rfl) ?_
                  have h11923 := h11138.drew
                  refine Plan.move_ptr rfl rfl <| Plan.move_int rfl rfl <| Plan.move_ptr rfl rfl <| Plan.move_int rfl rfl <| Plan.nilCheck rfl rfl <| Plan.fieldAddr0 FShaExact.fld49_0 rfl rfl <| Plan.idxArrO (j := 1) (o' := 1) FShaExact.arr46 rfl rfl rfl (by omega) rfl <| Plan.load0 h11923 27 rfl rfl rfl (by omega) FShaExact.sc37 ?_
                  refine Plan.nilCheck rfl rfl <| Plan.fieldAddr0 FShaExact.fld49_0 rfl rfl ?_
                  have h11924 := St.pickT (C := [_, _, _, _, _, _, _, _, _, _, _, _, _, _, _, _, _, _, _, _, _, _, _, _, _, _, _, _, _, _, _, _]) h11923 [17, 18, 19, 0, 1, 2, 3, 4, 5, 6, 7, 8, 9, 10, 11, 12, 13, 14, 15, 16, 20, 21, 22, 23, 24, 25, 26, 27, 28, 29, 30, 31] (by decide)
                  simp only [pick, zfc, zfn, zgz, zgs, zca, zna] at h11924
                  obtain ⟨x_11926, x_11927, x_11928, hr11925, hR⟩ := hR
                  refine Plan.call (vs := [.pointer (some ⟨b8134, 0, none⟩)]) rfl FShaExact.call30 rfl (sha_Hash_Copy_ok  hr11925 h11924) ?_
                  rintro _ w11930 ⟨b0_11929, rfl, h11930⟩
                  refine ⟨_, rfl, .inr ⟨rfl, ?_⟩⟩
                  refine Plan.idxArrO (j := 1) (o' := 1) FShaExact.arr46 rfl rfl rfl (by omega) rfl ?_
                  refine Plan.storeC h11930 30 rfl rfl rfl rfl rfl FShaExact.sz37 rfl fun w11931 h11931 => ?_
                  simp only [zca, zna, zsz, zss] at h11931
                  refine Plan.nil (k11855 _ _ ?_); clear k11855
                  refine W.regionD FShaExact.mixed [(0, true), (1, true), (2, true), (3, true), (4, true), (5, true), (6, true), (7, true), (9, true), (10, true), (8, false), (11, true), (12, false)] (by kernel_rfl) ?_
                  have h11932 := h11931.drew
                  refine Plan.move_ptr rfl rfl <| Plan.move_int rfl rfl <| Plan.move_ptr rfl rfl <| Plan.move_int rfl rfl <| Plan.nilCheck rfl rfl <| Plan.fieldAddr 3 FShaExact.fld49_1 rfl rfl <| Plan.idxArrO (j := 1) (o' := 4) FShaExact.arr47 rfl rfl rfl (by omega) rfl <| Plan.load0 h11932 33 rfl rfl rfl (by omega) FShaExact.sc22 ?_
                  refine Plan.nilCheck rfl rfl <| Plan.fieldAddr 3 FShaExact.fld49_1 rfl rfl ?_
                  have h11933 := h11932.nilR
                  obtain ⟨hc11935, hR⟩ := hR
                  refine Plan.appendO (X := ([] : List Byte)) (Y := m8144) h11933 0 Ow.nil FShaExact.el22 FShaExact.sl22 rfl rfl rfl rfl (hm8144.bx 28 rfl) hc11935 (fun _ => EffO.wait rfl) fun a11934 pb11934 cap11934 F11934 w11934 ho11934 h11934 => ?_
                  simp only [zca, zna, zsz, zss] at h11934
                  refine Plan.idxArrO (j := 1) (o' := 4) FShaExact.arr47 rfl rfl rfl (by omega) rfl ?_
                  refine Plan.storeC h11934 34 rfl rfl rfl rfl rfl FShaExact.sz22 rfl fun w11936 h11936 => ?_
                  simp only [zca, zna, zsz, zss] at h11936
                  refine Plan.nil ?_
                  refine blockR_norm ?_
                  have h11937 := St.pickT (C := [_, _, _, _, _, _, _, _, _, _, _, _, _, _, _, _, _, _, _, _, _, _, _, _, _, _, _, _, _, _, _, _, _, _, _, _]) h11936 [21, 22, 23, 1, 2, 3, 24, 25, 26, 27, 0, 29, 30, 31, 32, 33, 34, 35] (by decide)
                  simp only [pick, zfc, zfn, zgz, zgs, zca, zna] at h11937
                  exact ⟨1, 1, m8131, m8132, m8133, x_11926, x_11927, x_11928, m8139, m8140, m8141, m8142, (([] : List Byte) ++ m8144), m8146, hR, b8130, b0_11929, b8138, am8142, pm8142, cm8142, Fm8142, a11934, pb11934, cap11934, F11934, am8146, pm8146, cm8146, Fm8146, (zer (zer (zer zen))), h11937, hm8142, ho11934, hm8146⟩
                 ·
                  replace hR := ifF hR hc11922
                  obtain ⟨hc11938, hR⟩ := hR
                  subst hc11938
                  refine W.regionD FShaExact.mixed [(0, true), (1, true), (2, true), (3, true), (4, true), (5, true), (6, true), (7, true), (9, true), (10, true), (8, false), (11, true), (12, false)] (by kernel_rfl) ?_
                  have h11939 := h11138.drew
                  refine Plan.move_ptr rfl rfl <| Plan.move_int rfl rfl <| Plan.move_ptr rfl rfl <| Plan.move_int rfl rfl <| Plan.nilCheck rfl rfl <| Plan.fieldAddr0 FShaExact.fld49_0 rfl rfl <| Plan.idxArrO (j := 1) (o' := 1) FShaExact.arr46 rfl rfl rfl (by omega) rfl <| Plan.load0 h11939 27 rfl rfl rfl (by omega) FShaExact.sc37 ?_
                  refine Plan.nilCheck rfl rfl <| Plan.fieldAddr0 FShaExact.fld49_0 rfl rfl ?_
                  have h11940 := St.pickT (C := [_, _, _, _, _, _, _, _, _, _, _, _, _, _, _, _, _, _, _, _, _, _, _, _, _, _, _, _, _, _, _, _]) h11939 [17, 18, 19, 0, 1, 2, 3, 4, 5, 6, 7, 8, 9, 10, 11, 12, 13, 14, 15, 16, 20, 21, 22, 23, 24, 25, 26, 27, 28, 29, 30, 31] (by decide)
                  simp only [pick, zfc, zfn, zgz, zgs, zca, zna] at h11940
                  obtain ⟨x_11942, x_11943, x_11944, hr11941, hR⟩ := hR
                  refine Plan.call (vs := [.pointer (some ⟨b8134, 0, none⟩)]) rfl FShaExact.call30 rfl (sha_Hash_Copy_ok  hr11941 h11940) ?_
                  rintro _ w11946 ⟨b0_11945, rfl, h11946⟩
                  refine ⟨_, rfl, .inr ⟨rfl, ?_⟩⟩
                  refine Plan.idxArrO (j := 2) (o' := 2) FShaExact.arr46 rfl rfl rfl (by omega) rfl ?_
                  refine Plan.storeC h11946 31 rfl rfl rfl rfl rfl FShaExact.sz37 rfl fun w11947 h11947 => ?_
                  simp only [zca, zna, zsz, zss] at h11947
                  refine Plan.nil (k11855 _ _ ?_); clear k11855
                  refine W.regionD FShaExact.mixed [(0, true), (1, true), (2, true), (3, true), (4, true), (5, true), (6, true), (7, true), (9, true), (10, true), (8, false), (11, true), (12, false)] (by kernel_rfl) ?_
                  have h11948 := h11947.drew
                  refine Plan.move_ptr rfl rfl <| Plan.move_int rfl rfl <| Plan.move_ptr rfl rfl <| Plan.move_int rfl rfl <| Plan.nilCheck rfl rfl <| Plan.fieldAddr 3 FShaExact.fld49_1 rfl rfl <| Plan.idxArrO (j := 1) (o' := 4) FShaExact.arr47 rfl rfl rfl (by omega) rfl <| Plan.load0 h11948 33 rfl rfl rfl (by omega) FShaExact.sc22 ?_
                  refine Plan.nilCheck rfl rfl <| Plan.fieldAddr 3 FShaExact.fld49_1 rfl rfl ?_
                  have h11949 := h11948.nilR
                  obtain ⟨hc11951, hR⟩ := hR
                  refine Plan.appendO (X := ([] : List Byte)) (Y := m8144) h11949 0 Ow.nil FShaExact.el22 FShaExact.sl22 rfl rfl rfl rfl (hm8144.bx 28 rfl) hc11951 (fun _ => EffO.wait rfl) fun a11950 pb11950 cap11950 F11950 w11950 ho11950 h11950 => ?_
                  simp only [zca, zna, zsz, zss] at h11950
                  refine Plan.idxArrO (j := 2) (o' := 5) FShaExact.arr47 rfl rfl rfl (by omega) rfl ?_
                  refine Plan.storeC h11950 35 rfl rfl rfl rfl rfl FShaExact.sz22 rfl fun w11952 h11952 => ?_
                  simp only [zca, zna, zsz, zss] at h11952
                  refine Plan.nil ?_
                  refine blockR_norm ?_
                  have h11953 := St.pickT (C := [_, _, _, _, _, _, _, _, _, _, _, _, _, _, _, _, _, _, _, _, _, _, _, _, _, _, _, _, _, _, _, _, _, _, _, _]) h11952 [21, 22, 23, 4, 5, 6, 1, 2, 3, 27, 28, 0, 30, 31, 32, 33, 34, 35] (by decide)
                  simp only [pick, zfc, zfn, zgz, zgs, zca, zna] at h11953
                  exact ⟨1, 2, m8131, m8132, m8133, m8135, m8136, m8137, x_11942, x_11943, x_11944, m8142, m8144, (([] : List Byte) ++ m8144), hR, b8130, b8134, b0_11945, am8142, pm8142, cm8142, Fm8142, am8144, pm8144, cm8144, Fm8144, a11950, pb11950, cap11950, F11950, (zer (zer (zer zen))), h11953, hm8142, hm8144, ho11950⟩
               ·
                replace hR := ifF hR hc11905
                obtain ⟨hc11954, hR⟩ := hR
                subst hc11954
                by_cases hc11955 : x_11137 = 0
                ·
                 replace hR := ifT hR hc11955
                 subst hc11955
                 refine W.regionD FShaExact.mixed [(0, true), (1, true), (2, true), (3, true), (4, true), (5, true), (6, true), (7, true), (9, true), (10, true), (8, false), (11, true), (12, false)] (by kernel_rfl) ?_
                 have h11956 := h11138.drew
                 refine Plan.move_ptr rfl rfl <| Plan.move_int rfl rfl <| Plan.move_ptr rfl rfl <| Plan.move_int rfl rfl <| Plan.nilCheck rfl rfl <| Plan.fieldAddr0 FShaExact.fld49_0 rfl rfl <| Plan.idxArrO (j := 2) (o' := 2) FShaExact.arr46 rfl rfl rfl (by omega) rfl <| Plan.load0 h11956 28 rfl rfl rfl (by omega) FShaExact.sc37 ?_
                 refine Plan.nilCheck rfl rfl <| Plan.fieldAddr0 FShaExact.fld49_0 rfl rfl ?_
                 have h11957 := St.pickT (C := [_, _, _, _, _, _, _, _, _, _, _, _, _, _, _, _, _, _, _, _, _, _, _, _, _, _, _, _, _, _, _, _]) h11956 [20, 21, 22, 0, 1, 2, 3, 4, 5, 6, 7, 8, 9, 10, 11, 12, 13, 14, 15, 16, 17, 18, 19, 23, 24, 25, 26, 27, 28, 29, 30, 31] (by decide)
                 simp only [pick, zfc, zfn, zgz, zgs, zca, zna] at h11957
                 obtain ⟨x_11959, x_11960, x_11961, hr11958, hR⟩ := hR
                 refine Plan.call (vs := [.pointer (some ⟨b8138, 0, none⟩)]) rfl FShaExact.call30 rfl (sha_Hash_Copy_ok  hr11958 h11957) ?_
                 rintro _ w11963 ⟨b0_11962, rfl, h11963⟩
                 refine ⟨_, rfl, .inr ⟨rfl, ?_⟩⟩
                 refine Plan.idxArrO (j := 0) (o' := 0) FShaExact.arr46 rfl rfl rfl (by omega) rfl ?_
                 refine Plan.storeC h11963 29 rfl rfl rfl rfl rfl FShaExact.sz37 rfl fun w11964 h11964 => ?_
                 simp only [zca, zna, zsz, zss] at h11964
                 refine Plan.nil (k11855 _ _ ?_); clear k11855
                 refine W.regionD FShaExact.mixed [(0, true), (1, true), (2, true), (3, true), (4, true), (5, true), (6, true), (7, true), (9, true), (10, true), (8, false), (11, true), (12, false)] (by kernel_rfl) ?_
                 have h11965 := h11964.drew
                 refine Plan.move_ptr rfl rfl <| Plan.move_int rfl rfl <| Plan.move_ptr rfl rfl <| Plan.move_int rfl rfl <| Plan.nilCheck rfl rfl <| Plan.fieldAddr 3 FShaExact.fld49_1 rfl rfl <| Plan.idxArrO (j := 2) (o' := 5) FShaExact.arr47 rfl rfl rfl (by omega) rfl <| Plan.load0 h11965 34 rfl rfl rfl (by omega) FShaExact.sc22 ?_
                 refine Plan.nilCheck rfl rfl <| Plan.fieldAddr 3 FShaExact.fld49_1 rfl rfl ?_
                 have h11966 := h11965.nilR
                 obtain ⟨hc11968, hR⟩ := hR
                 refine Plan.appendO (X := ([] : List Byte)) (Y := m8146) h11966 0 Ow.nil FShaExact.el22 FShaExact.sl22 rfl rfl rfl rfl (hm8146.bx 29 rfl) hc11968 (fun _ => EffO.wait rfl) fun a11967 pb11967 cap11967 F11967 w11967 ho11967 h11967 => ?_
                 simp only [zca, zna, zsz, zss] at h11967
                 refine Plan.idxArrO (j := 0) (o' := 3) FShaExact.arr47 rfl rfl rfl (by omega) rfl ?_
                 refine Plan.storeC h11967 33 rfl rfl rfl rfl rfl FShaExact.sz22 rfl fun w11969 h11969 => ?_
                 simp only [zca, zna, zsz, zss] at h11969
                 refine Plan.nil ?_
                 refine blockR_norm ?_
                 have h11970 := St.pickT (C := [_, _, _, _, _, _, _, _, _, _, _, _, _, _, _, _, _, _, _, _, _, _, _, _, _, _, _, _, _, _, _, _, _, _, _, _]) h11969 [1, 2, 3, 24, 25, 26, 4, 5, 6, 0, 28, 29, 30, 31, 32, 33, 34, 35] (by decide)
                 simp only [pick, zfc, zfn, zgz, zgs, zca, zna] at h11970
                 exact ⟨2, 0, x_11959, x_11960, x_11961, m8135, m8136, m8137, m8139, m8140, m8141, (([] : List Byte) ++ m8146), m8144, m8146, hR, b0_11962, b8134, b8138, a11967, pb11967, cap11967, F11967, am8144, pm8144, cm8144, Fm8144, am8146, pm8146, cm8146, Fm8146, (zer (zer (zer zen))), h11970, ho11967, hm8144, hm8146⟩
                ·
                 replace hR := ifF hR hc11955
                 by_cases hc11971 : x_11137 = 1
                 ·
                  replace hR := ifT hR hc11971
                  subst hc11971
                  refine W.regionD FShaExact.mixed [(0, true), (1, true), (2, true), (3, true), (4, true), (5, true), (6, true), (7, true), (9, true), (10, true), (8, false), (11, true), (12, false)] (by kernel_rfl) ?_
                  have h11972 := h11138.drew
                  refine Plan.move_ptr rfl rfl <| Plan.move_int rfl rfl <| Plan.move_ptr rfl rfl <| Plan.move_int rfl rfl <| Plan.nilCheck rfl rfl <| Plan.fieldAddr0 FShaExact.fld49_0 rfl rfl <| Plan.idxArrO (j := 2) (o' := 2) FShaExact.arr46 rfl rfl rfl (by omega) rfl <| Plan.load0 h11972 28 rfl rfl rfl (by omega) FShaExact.sc37 ?_
                  refine Plan.nilCheck rfl rfl <| Plan.fieldAddr0 FShaExact.fld49_0 rfl rfl ?_
                  have h11973 := St.pickT (C := [_, _, _, _, _, _, _, _, _, _, _, _, _, _, _, _, _, _, _, _, _, _, _, _, _, _, _, _, _, _, _, _]) h11972 [20, 21, 22, 0, 1, 2, 3, 4, 5, 6, 7, 8, 9, 10, 11, 12, 13, 14, 15, 16, 17, 18, 19, 23, 24, 25, 26, 27, 28, 29, 30, 31] (by decide)
                  simp only [pick, zfc, zfn, zgz, zgs, zca, zna] at h11973
                  obtain ⟨x_11975, x_11976, x_11977, hr11974, hR⟩ := hR
                  refine Plan.call (vs := [.pointer (some ⟨b8138, 0, none⟩)]) rfl FShaExact.call30 rfl (sha_Hash_Copy_ok  hr11974 h11973) ?_
                  rintro _ w11979 ⟨b0_11978, rfl, h11979⟩
                  refine ⟨_, rfl, .inr ⟨rfl, ?_⟩⟩
                  refine Plan.idxArrO (j := 1) (o' := 1) FShaExact.arr46 rfl rfl rfl (by omega) rfl ?_
                  refine Plan.storeC h11979 30 rfl rfl rfl rfl rfl FShaExact.sz37 rfl fun w11980 h11980 => ?_
                  simp only [zca, zna, zsz, zss] at h11980
                  refine Plan.nil (k11855 _ _ ?_); clear k11855
                  refine W.regionD FShaExact.mixed [(0, true), (1, true), (2, true), (3, true), (4, true), (5, true), (6, true), (7, true), (9, true), (10, true), (8, false), (11, true), (12, false)] (by kernel_rfl) ?_
                  have h11981 := h11980.drew
                  refine Plan.move_ptr rfl rfl <| Plan.move_int rfl rfl <| Plan.move_ptr rfl rfl <| Plan.move_int rfl rfl <| Plan.nilCheck rfl rfl <| Plan.fieldAddr 3 FShaExact.fld49_1 rfl rfl <| Plan.idxArrO (j := 2) (o' := 5) FShaExact.arr47 rfl rfl rfl (by omega) rfl <| Plan.load0 h11981 34 rfl rfl rfl (by omega) FShaExact.sc22 ?_
                  refine Plan.nilCheck rfl rfl <| Plan.fieldAddr 3 FShaExact.fld49_1 rfl rfl ?_
                  have h11982 := h11981.nilR
                  obtain ⟨hc11984, hR⟩ := hR
                  refine Plan.appendO (X := ([] : List Byte)) (Y := m8146) h11982 0 Ow.nil FShaExact.el22 FShaExact.sl22 rfl rfl rfl rfl (hm8146.bx 29 rfl) hc11984 (fun _ => EffO.wait rfl) fun a11983 pb11983 cap11983 F11983 w11983 ho11983 h11983 => ?_
                  simp only [zca, zna, zsz, zss] at h11983
                  refine Plan.idxArrO (j := 1) (o' := 4) FShaExact.arr47 rfl rfl rfl (by omega) rfl ?_
                  refine Plan.storeC h11983 34 rfl rfl rfl rfl rfl FShaExact.sz22 rfl fun w11985 h11985 => ?_
                  simp only [zca, zna, zsz, zss] at h11985
                  refine Plan.nil ?_
                  refine blockR_norm ?_
                  have h11986 := St.pickT (C := [_, _, _, _, _, _, _, _, _, _, _, _, _, _, _, _, _, _, _, _, _, _, _, _, _, _, _, _, _, _, _, _, _, _, _, _]) h11985 [21, 22, 23, 1, 2, 3, 4, 5, 6, 27, 0, 29, 30, 31, 32, 33, 34, 35] (by decide)
                  simp only [pick, zfc, zfn, zgz, zgs, zca, zna] at h11986
                  exact ⟨2, 1, m8131, m8132, m8133, x_11975, x_11976, x_11977, m8139, m8140, m8141, m8142, (([] : List Byte) ++ m8146), m8146, hR, b8130, b0_11978, b8138, am8142, pm8142, cm8142, Fm8142, a11983, pb11983, cap11983, F11983, am8146, pm8146, cm8146, Fm8146, (zer (zer (zer zen))), h11986, hm8142, ho11983, hm8146⟩
                 ·
                  replace hR := ifF hR hc11971
                  obtain ⟨hc11987, hR⟩ := hR
                  subst hc11987
                  refine W.regionD FShaExact.mixed [(0, true), (1, true), (2, true), (3, true), (4, true), (5, true), (6, true), (7, true), (9, true), (10, true), (8, false), (11, true), (12, false)] (by kernel_rfl) ?_
                  have h11988 := h11138.drew
                  refine Plan.move_ptr rfl rfl <| Plan.move_int rfl rfl <| Plan.move_ptr rfl rfl <| Plan.move_int rfl rfl <| Plan.nilCheck rfl rfl <| Plan.fieldAddr0 FShaExact.fld49_0 rfl rfl <| Plan.idxArrO (j := 2) (o' := 2) FShaExact.arr46 rfl rfl rfl (by omega) rfl <| Plan.load0 h11988 28 rfl rfl rfl (by omega) FShaExact.sc37 ?_
                  refine Plan.nilCheck rfl rfl <| Plan.fieldAddr0 FShaExact.fld49_0 rfl rfl ?_
                  have h11989 := St.pickT (C := [_, _, _, _, _, _, _, _, _, _, _, _, _, _, _, _, _, _, _, _, _, _, _, _, _, _, _, _, _, _, _, _]) h11988 [20, 21, 22, 0, 1, 2, 3, 4, 5, 6, 7, 8, 9, 10, 11, 12, 13, 14, 15, 16, 17, 18, 19, 23, 24, 25, 26, 27, 28, 29, 30, 31] (by decide)
                  simp only [pick, zfc, zfn, zgz, zgs, zca, zna] at h11989
                  obtain ⟨x_11991, x_11992, x_11993, hr11990, hR⟩ := hR
                  refine Plan.call (vs := [.pointer (some ⟨b8138, 0, none⟩)]) rfl FShaExact.call30 rfl (sha_Hash_Copy_ok  hr11990 h11989) ?_
                  rintro _ w11995 ⟨b0_11994, rfl, h11995⟩
                  refine ⟨_, rfl, .inr ⟨rfl, ?_⟩⟩
                  refine Plan.idxArrO (j := 2) (o' := 2) FShaExact.arr46 rfl rfl rfl (by omega) rfl ?_
                  refine Plan.storeC h11995 31 rfl rfl rfl rfl rfl FShaExact.sz37 rfl fun w11996 h11996 => ?_
                  simp only [zca, zna, zsz, zss] at h11996
                  refine Plan.nil (k11855 _ _ ?_); clear k11855
                  refine W.regionD FShaExact.mixed [(0, true), (1, true), (2, true), (3, true), (4, true), (5, true), (6, true), (7, true), (9, true), (10, true), (8, false), (11, true), (12, false)] (by kernel_rfl) ?_
                  have h11997 := h11996.drew
                  refine Plan.move_ptr rfl rfl <| Plan.move_int rfl rfl <| Plan.move_ptr rfl rfl <| Plan.move_int rfl rfl <| Plan.nilCheck rfl rfl <| Plan.fieldAddr 3 FShaExact.fld49_1 rfl rfl <| Plan.idxArrO (j := 2) (o' := 5) FShaExact.arr47 rfl rfl rfl (by omega) rfl <| Plan.load0 h11997 34 rfl rfl rfl (by omega) FShaExact.sc22 ?_
                  refine Plan.nilCheck rfl rfl <| Plan.fieldAddr 3 FShaExact.fld49_1 rfl rfl ?_
                  have h11998 := h11997.nilR
                  obtain ⟨hc12000, hR⟩ := hR
                  refine Plan.appendO (X := ([] : List Byte)) (Y := m8146) h11998 0 Ow.nil FShaExact.el22 FShaExact.sl22 rfl rfl rfl rfl (hm8146.bx 29 rfl) hc12000 (fun _ => EffO.wait rfl) fun a11999 pb11999 cap11999 F11999 w11999 ho11999 h11999 => ?_
                  simp only [zca, zna, zsz, zss] at h11999
                  refine Plan.idxArrO (j := 2) (o' := 5) FShaExact.arr47 rfl rfl rfl (by omega) rfl ?_
                  refine Plan.storeC h11999 35 rfl rfl rfl rfl rfl FShaExact.sz22 rfl fun w12001 h12001 => ?_
                  simp only [zca, zna, zsz, zss] at h12001
                  refine Plan.nil ?_
                  refine blockR_norm ?_
                  have h12002 := St.pickT (C := [_, _, _, _, _, _, _, _, _, _, _, _, _, _, _, _, _, _, _, _, _, _, _, _, _, _, _, _, _, _, _, _, _, _, _, _]) h12001 [21, 22, 23, 24, 25, 26, 1, 2, 3, 27, 28, 0, 30, 31, 32, 33, 34, 35] (by decide)
                  simp only [pick, zfc, zfn, zgz, zgs, zca, zna] at h12002
                  exact ⟨2, 2, m8131, m8132, m8133, m8135, m8136, m8137, x_11991, x_11992, x_11993, m8142, m8144, (([] : List Byte) ++ m8146), hR, b8130, b8134, b0_11994, am8142, pm8142, cm8142, Fm8142, am8144, pm8144, cm8144, Fm8144, a11999, pb11999, cap11999, F11999, (zer (zer (zer zen))), h12002, hm8142, hm8144, ho11999⟩
             ·
              replace hR := ifF hR hc11854
              refine W.condF (congrArg Value.bool (decide_eq_false hc11854)) ?_
              refine W.seq_k fun _ k12003 => W.regionT [(0, true), (1, true)] (by kernel_rfl) ?_
              refine Plan.cmpP (a := ((script1.getD i_8129 ((0 : Int), (0 : Int), (0 : Int), ([] : List Byte), ([] : List Byte), (fun _ => 0#32), (fun _ => 0#8))).1 : Int)) (b := (7 : Int)) (p := (script1.getD i_8129 ((0 : Int), (0 : Int), (0 : Int), ([] : List Byte), ([] : List Byte), (fun _ => 0#32), (fun _ => 0#8))).1 = 7) rfl rfl rfl rfl icmp_eq ?_
              refine Plan.assign_bool rfl rfl <| Plan.nil (k12003 _ _ ?_); clear k12003
              by_cases hc12004 : (script1.getD i_8129 ((0 : Int), (0 : Int), (0 : Int), ([] : List Byte), ([] : List Byte), (fun _ => 0#32), (fun _ => 0#8))).1 = 7
              ·
               replace hR := ifT hR hc12004
               refine W.condT (congrArg Value.bool (decide_eq_true hc12004)) ?_
               refine W.seq_k fun _ k12005 => ?_
               by_cases hc12006 : x_11134 = 0
               ·
                replace hR := ifT hR hc12006
                subst hc12006
                refine W.regionT [(0, true), (1, true), (2, true), (3, true), (4, true), (5, true), (6, false)] (by kernel_rfl) ?_
                refine Plan.move_ptr rfl rfl <| Plan.move_int rfl rfl <| Plan.nilCheck rfl rfl <| Plan.fieldAddr0 FShaExact.fld49_0 rfl rfl <| Plan.idxArrO (j := 0) (o' := 0) FShaExact.arr46 rfl rfl rfl (by omega) rfl <| Plan.load0 h11138 26 rfl rfl rfl (by omega) FShaExact.sc37 ?_
                have h12007 := St.pickT (C := [_, _, _, _, _, _, _, _, _, _, _, _, _, _, _, _, _, _, _, _, _, _, _, _, _, _, _, _, _, _, _, _]) h11138 [14, 15, 16, 0, 1, 2, 3, 4, 5, 6, 7, 8, 9, 10, 11, 12, 13, 17, 18, 19, 20, 21, 22, 23, 24, 25, 26, 27, 28, 29, 30, 31] (by decide)
                simp only [pick, zfc, zfn, zgz, zgs, zca, zna] at h12007
                obtain ⟨x_12009, x_12010, x_12011, hr12008, hR⟩ := hR
                refine Plan.call (vs := [.pointer (some ⟨b8130, 0, none⟩)]) rfl FShaExact.call31 rfl (sha_Hash_Wipe_ok (iG1 := iG1 + 29) hG1 hr12008 h12007) ?_
                rintro _ w12012 ⟨rfl, h12012⟩
                refine ⟨_, rfl, .inr ⟨rfl, ?_⟩⟩
                refine Plan.nil (k12005 _ _ ?_); clear k12005
                refine W.regionT [(0, true), (1, true), (2, true), (3, true), (4, true), (5, false)] (by kernel_rfl) ?_
                refine Plan.move_ptr rfl rfl <| Plan.move_int rfl rfl <| Plan.nilCheck rfl rfl <| Plan.fieldAddr 3 FShaExact.fld49_1 rfl rfl <| Plan.idxArrO (j := 0) (o' := 3) FShaExact.arr47 rfl rfl rfl (by omega) rfl ?_
                refine Plan.storeC h12012 29 rfl rfl rfl rfl rfl FShaExact.sz22 rfl fun w12013 h12013 => ?_
                simp only [zca, zna, zsz, zss] at h12013
                refine Plan.nil ?_
                refine blockR_norm ?_
                have h12014 := h12013.nilR
                have h12015 := St.pickT (C := [_, _, _, _, _, _, _, _, _, _, _, _, _, _, _, _, _, _, _, _, _, _, _, _, _, _, _, _, _, _, _, _, _]) h12014 [1, 2, 3, 18, 19, 20, 21, 22, 23, 0, 25, 26, 27, 28, 29, 30, 31, 32] (by decide)
                simp only [pick, zfc, zfn, zgz, zgs, zca, zna] at h12015
                exact ⟨0, x_11137, x_12009, x_12010, x_12011, m8135, m8136, m8137, m8139, m8140, m8141, ([] : List Byte), m8144, m8146, hR, b8130, b8134, b8138, none, none, 0, (fun _ => 0#8), am8144, pm8144, cm8144, Fm8144, am8146, pm8146, cm8146, Fm8146, (zer (zer (zer zen))), h12015, Ow.nil, hm8144, hm8146⟩
               ·
                replace hR := ifF hR hc12006
                by_cases hc12016 : x_11134 = 1
                ·
                 replace hR := ifT hR hc12016
                 subst hc12016
                 refine W.regionT [(0, true), (1, true), (2, true), (3, true), (4, true), (5, true), (6, false)] (by kernel_rfl) ?_
                 refine Plan.move_ptr rfl rfl <| Plan.move_int rfl rfl <| Plan.nilCheck rfl rfl <| Plan.fieldAddr0 FShaExact.fld49_0 rfl rfl <| Plan.idxArrO (j := 1) (o' := 1) FShaExact.arr46 rfl rfl rfl (by omega) rfl <| Plan.load0 h11138 27 rfl rfl rfl (by omega) FShaExact.sc37 ?_
                 have h12017 := St.pickT (C := [_, _, _, _, _, _, _, _, _, _, _, _, _, _, _, _, _, _, _, _, _, _, _, _, _, _, _, _, _, _, _, _]) h11138 [17, 18, 19, 0, 1, 2, 3, 4, 5, 6, 7, 8, 9, 10, 11, 12, 13, 14, 15, 16, 20, 21, 22, 23, 24, 25, 26, 27, 28, 29, 30, 31] (by decide)
                 simp only [pick, zfc, zfn, zgz, zgs, zca, zna] at h12017
                 obtain ⟨x_12019, x_12020, x_12021, hr12018, hR⟩ := hR
                 refine Plan.call (vs := [.pointer (some ⟨b8134, 0, none⟩)]) rfl FShaExact.call31 rfl (sha_Hash_Wipe_ok (iG1 := iG1 + 29) hG1 hr12018 h12017) ?_
                 rintro _ w12022 ⟨rfl, h12022⟩
                 refine ⟨_, rfl, .inr ⟨rfl, ?_⟩⟩
                 refine Plan.nil (k12005 _ _ ?_); clear k12005
                 refine W.regionT [(0, true), (1, true), (2, true), (3, true), (4, true), (5, false)] (by kernel_rfl) ?_
                 refine Plan.move_ptr rfl rfl <| Plan.move_int rfl rfl <| Plan.nilCheck rfl rfl <| Plan.fieldAddr 3 FShaExact.fld49_1 rfl rfl <| Plan.idxArrO (j := 1) (o' := 4) FShaExact.arr47 rfl rfl rfl (by omega) rfl ?_
                 refine Plan.storeC h12022 30 rfl rfl rfl rfl rfl FShaExact.sz22 rfl fun w12023 h12023 => ?_
                 simp only [zca, zna, zsz, zss] at h12023
                 refine Plan.nil ?_
                 refine blockR_norm ?_
                 have h12024 := h12023.nilR
                 have h12025 := St.pickT (C := [_, _, _, _, _, _, _, _, _, _, _, _, _, _, _, _, _, _, _, _, _, _, _, _, _, _, _, _, _, _, _, _, _]) h12024 [18, 19, 20, 1, 2, 3, 21, 22, 23, 24, 0, 26, 27, 28, 29, 30, 31, 32] (by decide)
                 simp only [pick, zfc, zfn, zgz, zgs, zca, zna] at h12025
                 exact ⟨1, x_11137, m8131, m8132, m8133, x_12019, x_12020, x_12021, m8139, m8140, m8141, m8142, ([] : List Byte), m8146, hR, b8130, b8134, b8138, am8142, pm8142, cm8142, Fm8142, none, none, 0, (fun _ => 0#8), am8146, pm8146, cm8146, Fm8146, (zer (zer (zer zen))), h12025, hm8142, Ow.nil, hm8146⟩
                ·
                 replace hR := ifF hR hc12016
                 obtain ⟨hc12026, hR⟩ := hR
                 subst hc12026
                 refine W.regionT [(0, true), (1, true), (2, true), (3, true), (4, true), (5, true), (6, false)] (by kernel_rfl) ?_
                 refine Plan.move_ptr rfl rfl <| Plan.move_int rfl rfl <| Plan.nilCheck rfl rfl <| Plan.fieldAddr0 FShaExact.fld49_0 rfl rfl <| Plan.idxArrO (j := 2) (o' := 2) FShaExact.arr46 rfl rfl rfl (by omega) rfl <| Plan.load0 h11138 28 rfl rfl rfl (by omega) FShaExact.sc37 ?_
                 have h12027 := St.pickT (C := [_, _, _, _, _, _, _, _, _, _, _, _, _, _, _, _, _, _, _, _, _, _, _, _, _, _, _, _, _, _, _, _]) h11138 [20, 21, 22, 0, 1, 2, 3, 4, 5, 6, 7, 8, 9, 10, 11, 12, 13, 14, 15, 16, 17, 18, 19, 23, 24, 25, 26, 27, 28, 29, 30, 31] (by decide)
                 simp only [pick, zfc, zfn, zgz, zgs, zca, zna] at h12027
                 obtain ⟨x_12029, x_12030, x_12031, hr12028, hR⟩ := hR
                 refine Plan.call (vs := [.pointer (some ⟨b8138, 0, none⟩)]) rfl FShaExact.call31 rfl (sha_Hash_Wipe_ok (iG1 := iG1 + 29) hG1 hr12028 h12027) ?_
                 rintro _ w12032 ⟨rfl, h12032⟩
                 refine ⟨_, rfl, .inr ⟨rfl, ?_⟩⟩
                 refine Plan.nil (k12005 _ _ ?_); clear k12005
                 refine W.regionT [(0, true), (1, true), (2, true), (3, true), (4, true), (5, false)] (by kernel_rfl) ?_
                 refine Plan.move_ptr rfl rfl <| Plan.move_int rfl rfl <| Plan.nilCheck rfl rfl <| Plan.fieldAddr 3 FShaExact.fld49_1 rfl rfl <| Plan.idxArrO (j := 2) (o' := 5) FShaExact.arr47 rfl rfl rfl (by omega) rfl ?_
                 refine Plan.storeC h12032 31 rfl rfl rfl rfl rfl FShaExact.sz22 rfl fun w12033 h12033 => ?_
                 simp only [zca, zna, zsz, zss] at h12033
                 refine Plan.nil ?_
                 refine blockR_norm ?_
                 have h12034 := h12033.nilR
                 have h12035 := St.pickT (C := [_, _, _, _, _, _, _, _, _, _, _, _, _, _, _, _, _, _, _, _, _, _, _, _, _, _, _, _, _, _, _, _, _]) h12034 [18, 19, 20, 21, 22, 23, 1, 2, 3, 24, 25, 0, 27, 28, 29, 30, 31, 32] (by decide)
                 simp only [pick, zfc, zfn, zgz, zgs, zca, zna] at h12035
                 exact ⟨2, x_11137, m8131, m8132, m8133, m8135, m8136, m8137, x_12029, x_12030, x_12031, m8142, m8144, ([] : List Byte), hR, b8130, b8134, b8138, am8142, pm8142, cm8142, Fm8142, am8144, pm8144, cm8144, Fm8144, none, none, 0, (fun _ => 0#8), (zer (zer (zer zen))), h12035, hm8142, hm8144, Ow.nil⟩
              ·
               replace hR := ifF hR hc12004
               refine W.condF (congrArg Value.bool (decide_eq_false hc12004)) ?_
               refine W.skip ?_
               refine blockR_norm ?_
               have h12036 := St.pickT (C := [_, _, _, _, _, _, _, _, _, _, _, _, _, _, _, _, _, _, _, _, _, _, _, _, _, _, _, _, _, _, _, _]) h11138 [14, 15, 16, 17, 18, 19, 20, 21, 22, 23, 24, 25, 26, 27, 28, 29, 30, 31] (by decide)
               simp only [pick, zfc, zfn, zgz, zgs, zca, zna] at h12036
               exact ⟨x_11134, x_11137, m8131, m8132, m8133, m8135, m8136, m8137, m8139, m8140, m8141, m8142, m8144, m8146, hR, b8130, b8134, b8138, am8142, pm8142, cm8142, Fm8142, am8144, pm8144, cm8144, Fm8144, am8146, pm8146, cm8146, Fm8146, (zer (zer (zer zen))), h12036, hm8142, hm8144, hm8146⟩
         ·
          rintro ev12037 wl12037 ⟨y_w_11561, y_to11562, y_m11564, y_m11565, y_m11566, y_m11568, y_m11569, y_m11570, y_m11572, y_m11573, y_m11574, y_m11575, y_m11578, y_m11581, ⟨hy12037_0, hy12037_1, hy12037_2, hy12037_3, hy12037_4, hy12037_5, hy12037_6, hy12037_7, hy12037_8, hy12037_9, hy12037_10, hy12037_11, hy12037_12, hy12037_13, hy12037_14⟩, b11563, b11567, b11571, am11575, pm11575, cm11575, Fm11575, am11578, pm11578, cm11578, Fm11578, am11581, pm11581, cm11581, Fm11581, he12037, h12037, hm11575, hm11578, hm11581⟩
          subst hy12037_1
          subst hy12037_2
          subst hy12037_3
          subst hy12037_4
          subst hy12037_5
          subst hy12037_6
          subst hy12037_7
          subst hy12037_8
          subst hy12037_9
          subst hy12037_10
          subst hy12037_11
          subst hy12037_12
          subst hy12037_13
          subst hy12037_14
          obtain ⟨ev12037, rfl⟩ := he12037.open
          replace hR := hR011584 hy12037_0
          refine k11139 _ _ ?_; clear k11139
          refine W.seq_k fun _ k12038 => ?_
          by_cases hc12039 : w_11561 = 0
          ·
           replace hR := ifT hR hc12039
           subst hc12039
           by_cases hc12040 : to11562 = 0
           ·
            replace hR := ifT hR hc12040
            subst hc12040
            refine W.regionT [(0, true), (1, true), (2, true), (3, true), (4, true), (5, true), (6, true), (7, true), (8, true), (9, true), (10, true), (11, true), (12, true), (13, true), (14, true), (15, true), (16, true)] (by kernel_rfl) ?_
            refine Plan.move_ptr rfl rfl <| Plan.move_int rfl rfl <| Plan.nilCheck rfl rfl <| Plan.fieldAddr0 FShaExact.fld49_0 rfl rfl <| Plan.idxArrO (j := 0) (o' := 0) FShaExact.arr46 rfl rfl rfl (by omega) rfl <| Plan.load0 h12037 12 rfl rfl rfl (by omega) FShaExact.sc37 <| Plan.neNil (b := true) FShaExact.ptr37 rfl rfl rfl rfl <| Plan.move_bool rfl rfl ?_
            refine Plan.move_ptr rfl rfl <| Plan.move_int rfl rfl <| Plan.nilCheck rfl rfl <| Plan.fieldAddr0 FShaExact.fld49_0 rfl rfl <| Plan.idxArrO (j := 0) (o' := 0) FShaExact.arr46 rfl rfl rfl (by omega) rfl <| Plan.load0 h12037 12 rfl rfl rfl (by omega) FShaExact.sc37 <| Plan.neNil (b := true) FShaExact.ptr37 rfl rfl rfl rfl <| Plan.pickTb rfl rfl rfl ?_
            refine Plan.assign_bool rfl rfl <| Plan.nil (k12038 _ _ ?_); clear k12038
            refine W.ret (finR_ret ?_)
            refine RetOk.mk (.tmp_bool rfl .nil) ?_
            exact ⟨true, m11564, m11565, m11566, m11568, m11569, m11570, m11572, m11573, m11574, m11575, m11578, m11581, hR, b11563, b11567, b11571, am11575, pm11575, cm11575, Fm11575, am11578, pm11578, cm11578, Fm11578, am11581, pm11581, cm11581, Fm11581, rfl, h12037, hm11575, hm11578, hm11581⟩
           ·
            replace hR := ifF hR hc12040
            by_cases hc12041 : to11562 = 1
            ·
             replace hR := ifT hR hc12041
             subst hc12041
             refine W.regionT [(0, true), (1, true), (2, true), (3, true), (4, true), (5, true), (6, true), (7, true), (8, true), (9, true), (10, true), (11, true), (12, true), (13, true), (14, true), (15, true), (16, true)] (by kernel_rfl) ?_
             refine Plan.move_ptr rfl rfl <| Plan.move_int rfl rfl <| Plan.nilCheck rfl rfl <| Plan.fieldAddr0 FShaExact.fld49_0 rfl rfl <| Plan.idxArrO (j := 0) (o' := 0) FShaExact.arr46 rfl rfl rfl (by omega) rfl <| Plan.load0 h12037 12 rfl rfl rfl (by omega) FShaExact.sc37 <| Plan.neNil (b := true) FShaExact.ptr37 rfl rfl rfl rfl <| Plan.move_bool rfl rfl ?_
             refine Plan.move_ptr rfl rfl <| Plan.move_int rfl rfl <| Plan.nilCheck rfl rfl <| Plan.fieldAddr0 FShaExact.fld49_0 rfl rfl <| Plan.idxArrO (j := 1) (o' := 1) FShaExact.arr46 rfl rfl rfl (by omega) rfl <| Plan.load0 h12037 13 rfl rfl rfl (by omega) FShaExact.sc37 <| Plan.neNil (b := true) FShaExact.ptr37 rfl rfl rfl rfl <| Plan.pickTb rfl rfl rfl ?_
             refine Plan.assign_bool rfl rfl <| Plan.nil (k12038 _ _ ?_); clear k12038
             refine W.ret (finR_ret ?_)
             refine RetOk.mk (.tmp_bool rfl .nil) ?_
             exact ⟨true, m11564, m11565, m11566, m11568, m11569, m11570, m11572, m11573, m11574, m11575, m11578, m11581, hR, b11563, b11567, b11571, am11575, pm11575, cm11575, Fm11575, am11578, pm11578, cm11578, Fm11578, am11581, pm11581, cm11581, Fm11581, rfl, h12037, hm11575, hm11578, hm11581⟩
            ·
             replace hR := ifF hR hc12041
             obtain ⟨hc12042, hR⟩ := hR
             subst hc12042
             refine W.regionT [(0, true), (1, true), (2, true), (3, true), (4, true), (5, true), (6, true), (7, true), (8, true), (9, true), (10, true), (11, true), (12, true), (13, true), (14, true), (15, true), (16, true)] (by kernel_rfl) ?_
             refine Plan.move_ptr rfl rfl <| Plan.move_int rfl rfl <| Plan.nilCheck rfl rfl <| Plan.fieldAddr0 FShaExact.fld49_0 rfl rfl <| Plan.idxArrO (j := 0) (o' := 0) FShaExact.arr46 rfl rfl rfl (by omega) rfl <| Plan.load0 h12037 12 rfl rfl rfl (by omega) FShaExact.sc37 <| Plan.neNil (b := true) FShaExact.ptr37 rfl rfl rfl rfl <| Plan.move_bool rfl rfl ?_
             refine Plan.move_ptr rfl rfl <| Plan.move_int rfl rfl <| Plan.nilCheck rfl rfl <| Plan.fieldAddr0 FShaExact.fld49_0 rfl rfl <| Plan.idxArrO (j := 2) (o' := 2) FShaExact.arr46 rfl rfl rfl (by omega) rfl <| Plan.load0 h12037 14 rfl rfl rfl (by omega) FShaExact.sc37 <| Plan.neNil (b := true) FShaExact.ptr37 rfl rfl rfl rfl <| Plan.pickTb rfl rfl rfl ?_
             refine Plan.assign_bool rfl rfl <| Plan.nil (k12038 _ _ ?_); clear k12038
             refine W.ret (finR_ret ?_)
             refine RetOk.mk (.tmp_bool rfl .nil) ?_
             exact ⟨true, m11564, m11565, m11566, m11568, m11569, m11570, m11572, m11573, m11574, m11575, m11578, m11581, hR, b11563, b11567, b11571, am11575, pm11575, cm11575, Fm11575, am11578, pm11578, cm11578, Fm11578, am11581, pm11581, cm11581, Fm11581, rfl, h12037, hm11575, hm11578, hm11581⟩
          ·
           replace hR := ifF hR hc12039
           by_cases hc12043 : w_11561 = 1
           ·
            replace hR := ifT hR hc12043
            subst hc12043
            by_cases hc12044 : to11562 = 0
            ·
             replace hR := ifT hR hc12044
             subst hc12044
             refine W.regionT [(0, true), (1, true), (2, true), (3, true), (4, true), (5, true), (6, true), (7, true), (8, true), (9, true), (10, true), (11, true), (12, true), (13, true), (14, true), (15, true), (16, true)] (by kernel_rfl) ?_
             refine Plan.move_ptr rfl rfl <| Plan.move_int rfl rfl <| Plan.nilCheck rfl rfl <| Plan.fieldAddr0 FShaExact.fld49_0 rfl rfl <| Plan.idxArrO (j := 1) (o' := 1) FShaExact.arr46 rfl rfl rfl (by omega) rfl <| Plan.load0 h12037 13 rfl rfl rfl (by omega) FShaExact.sc37 <| Plan.neNil (b := true) FShaExact.ptr37 rfl rfl rfl rfl <| Plan.move_bool rfl rfl ?_
             refine Plan.move_ptr rfl rfl <| Plan.move_int rfl rfl <| Plan.nilCheck rfl rfl <| Plan.fieldAddr0 FShaExact.fld49_0 rfl rfl <| Plan.idxArrO (j := 0) (o' := 0) FShaExact.arr46 rfl rfl rfl (by omega) rfl <| Plan.load0 h12037 12 rfl rfl rfl (by omega) FShaExact.sc37 <| Plan.neNil (b := true) FShaExact.ptr37 rfl rfl rfl rfl <| Plan.pickTb rfl rfl rfl ?_
             refine Plan.assign_bool rfl rfl <| Plan.nil (k12038 _ _ ?_); clear k12038
             refine W.ret (finR_ret ?_)
             refine RetOk.mk (.tmp_bool rfl .nil) ?_
             exact ⟨true, m11564, m11565, m11566, m11568, m11569, m11570, m11572, m11573, m11574, m11575, m11578, m11581, hR, b11563, b11567, b11571, am11575, pm11575, cm11575, Fm11575, am11578, pm11578, cm11578, Fm11578, am11581, pm11581, cm11581, Fm11581, rfl, h12037, hm11575, hm11578, hm11581⟩
            ·
             replace hR := ifF hR hc12044
             by_cases hc12045 : to11562 = 1
             ·
              replace hR := ifT hR hc12045
              subst hc12045
              refine W.regionT [(0, true), (1, true), (2, true), (3, true), (4, true), (5, true), (6, true), (7, true), (8, true), (9, true), (10, true), (11, true), (12, true), (13, true), (14, true), (15, true), (16, true)] (by kernel_rfl) ?_
              refine Plan.move_ptr rfl rfl <| Plan.move_int rfl rfl <| Plan.nilCheck rfl rfl <| Plan.fieldAddr0 FShaExact.fld49_0 rfl rfl <| Plan.idxArrO (j := 1) (o' := 1) FShaExact.arr46 rfl rfl rfl (by omega) rfl <| Plan.load0 h12037 13 rfl rfl rfl (by omega) FShaExact.sc37 <| Plan.neNil (b := true) FShaExact.ptr37 rfl rfl rfl rfl <| Plan.move_bool rfl rfl ?_
              refine Plan.move_ptr rfl rfl <| Plan.move_int rfl rfl <| Plan.nilCheck rfl rfl <| Plan.fieldAddr0 FShaExact.fld49_0 rfl rfl <| Plan.idxArrO (j := 1) (o' := 1) FShaExact.arr46 rfl rfl rfl (by omega) rfl <| Plan.load0 h12037 13 rfl rfl rfl (by omega) FShaExact.sc37 <| Plan.neNil (b := true) FShaExact.ptr37 rfl rfl rfl rfl <| Plan.pickTb rfl rfl rfl ?_
              refine Plan.assign_bool rfl rfl <| Plan.nil (k12038 _ _ ?_); clear k12038
              refine W.ret (finR_ret ?_)
              refine RetOk.mk (.tmp_bool rfl .nil) ?_
              exact ⟨true, m11564, m11565, m11566, m11568, m11569, m11570, m11572, m11573, m11574, m11575, m11578, m11581, hR, b11563, b11567, b11571, am11575, pm11575, cm11575, Fm11575, am11578, pm11578, cm11578, Fm11578, am11581, pm11581, cm11581, Fm11581, rfl, h12037, hm11575, hm11578, hm11581⟩
             ·
              replace hR := ifF hR hc12045
              obtain ⟨hc12046, hR⟩ := hR
              subst hc12046
              refine W.regionT [(0, true), (1, true), (2, true), (3, true), (4, true), (5, true), (6, true), (7, true), (8, true), (9, true), (10, true), (11, true), (12, true), (13, true), (14, true), (15, true), (16, true)] (by kernel_rfl) ?_
              refine Plan.move_ptr rfl rfl <| Plan.move_int rfl rfl <| Plan.nilCheck rfl rfl <| Plan.fieldAddr0 FShaExact.fld49_0 rfl rfl <| Plan.idxArrO (j := 1) (o' := 1) FShaExact.arr46 rfl rfl rfl (by omega) rfl <| Plan.load0 h12037 13 rfl rfl rfl (by omega) FShaExact.sc37 <| Plan.neNil (b := true) FShaExact.ptr37 rfl rfl rfl rfl <| Plan.move_bool rfl rfl ?_
              refine Plan.move_ptr rfl rfl <| Plan.move_int rfl rfl <| Plan.nilCheck rfl rfl <| Plan.fieldAddr0 FShaExact.fld49_0 rfl rfl <| Plan.idxArrO (j := 2) (o' := 2) FShaExact.arr46 rfl rfl rfl (by omega) rfl <| Plan.load0 h12037 14 rfl rfl rfl (by omega) FShaExact.sc37 <| Plan.neNil (b := true) FShaExact.ptr37 rfl rfl rfl rfl <| Plan.pickTb rfl rfl rfl ?_
              refine Plan.assign_bool rfl rfl <| Plan.nil (k12038 _ _ ?_); clear k12038
              refine W.ret (finR_ret ?_)
              refine RetOk.mk (.tmp_bool rfl .nil) ?_
              exact ⟨true, m11564, m11565, m11566, m11568, m11569, m11570, m11572, m11573, m11574, m11575, m11578, m11581, hR, b11563, b11567, b11571, am11575, pm11575, cm11575, Fm11575, am11578, pm11578, cm11578, Fm11578, am11581, pm11581, cm11581, Fm11581, rfl, h12037, hm11575, hm11578, hm11581⟩
           ·
            replace hR := ifF hR hc12043
            obtain ⟨hc12047, hR⟩ := hR
            subst hc12047
            by_cases hc12048 : to11562 = 0
            ·
             replace hR := ifT hR hc12048
             subst hc12048
             refine W.regionT [(0, true), (1, true), (2, true), (3, true), (4, true), (5, true), (6, true), (7, true), (8, true), (9, true), (10, true), (11, true), (12, true), (13, true), (14, true), (15, true), (16, true)] (by kernel_rfl) ?_
             refine Plan.move_ptr rfl rfl <| Plan.move_int rfl rfl <| Plan.nilCheck rfl rfl <| Plan.fieldAddr0 FShaExact.fld49_0 rfl rfl <| Plan.idxArrO (j := 2) (o' := 2) FShaExact.arr46 rfl rfl rfl (by omega) rfl <| Plan.load0 h12037 14 rfl rfl rfl (by omega) FShaExact.sc37 <| Plan.neNil (b := true) FShaExact.ptr37 rfl rfl rfl rfl <| Plan.move_bool rfl rfl ?_
             refine Plan.move_ptr rfl rfl <| Plan.move_int rfl rfl <| Plan.nilCheck rfl rfl <| Plan.fieldAddr0 FShaExact.fld49_0 rfl rfl <| Plan.idxArrO (j := 0) (o' := 0) FShaExact.arr46 rfl rfl rfl (by omega) rfl <| Plan.load0 h12037 12 rfl rfl rfl (by omega) FShaExact.sc37 <| Plan.neNil (b := true) FShaExact.ptr37 rfl rfl rfl rfl <| Plan.pickTb rfl rfl rfl ?_
             refine Plan.assign_bool rfl rfl <| Plan.nil (k12038 _ _ ?_); clear k12038
             refine W.ret (finR_ret ?_)
             refine RetOk.mk (.tmp_bool rfl .nil) ?_
             exact ⟨true, m11564, m11565, m11566, m11568, m11569, m11570, m11572, m11573, m11574, m11575, m11578, m11581, hR, b11563, b11567, b11571, am11575, pm11575, cm11575, Fm11575, am11578, pm11578, cm11578, Fm11578, am11581, pm11581, cm11581, Fm11581, rfl, h12037, hm11575, hm11578, hm11581⟩
            ·
             replace hR := ifF hR hc12048
             by_cases hc12049 : to11562 = 1
             ·
              replace hR := ifT hR hc12049
              subst hc12049
              refine W.regionT [(0, true), (1, true), (2, true), (3, true), (4, true), (5, true), (6, true), (7, true), (8, true), (9, true), (10, true), (11, true), (12, true), (13, true), (14, true), (15, true), (16, true)] (by kernel_rfl) ?_
              refine Plan.move_ptr rfl rfl <| Plan.move_int rfl rfl <| Plan.nilCheck rfl rfl <| Plan.fieldAddr0 FShaExact.fld49_0 rfl rfl <| Plan.idxArrO (j := 2) (o' := 2) FShaExact.arr46 rfl rfl rfl (by omega) rfl <| Plan.load0 h12037 14 rfl rfl rfl (by omega) FShaExact.sc37 <| Plan.neNil (b := true) FShaExact.ptr37 rfl rfl rfl rfl <| Plan.move_bool rfl rfl ?_
              refine Plan.move_ptr rfl rfl <| Plan.move_int rfl rfl <| Plan.nilCheck rfl rfl <| Plan.fieldAddr0 FShaExact.fld49_0 rfl rfl <| Plan.idxArrO (j := 1) (o' := 1) FShaExact.arr46 rfl rfl rfl (by omega) rfl <| Plan.load0 h12037 13 rfl rfl rfl (by omega) FShaExact.sc37 <| Plan.neNil (b := true) FShaExact.ptr37 rfl rfl rfl rfl <| Plan.pickTb rfl rfl rfl ?_
              refine Plan.assign_bool rfl rfl <| Plan.nil (k12038 _ _ ?_); clear k12038
              refine W.ret (finR_ret ?_)
              refine RetOk.mk (.tmp_bool rfl .nil) ?_
              exact ⟨true, m11564, m11565, m11566, m11568, m11569, m11570, m11572, m11573, m11574, m11575, m11578, m11581, hR, b11563, b11567, b11571, am11575, pm11575, cm11575, Fm11575, am11578, pm11578, cm11578, Fm11578, am11581, pm11581, cm11581, Fm11581, rfl, h12037, hm11575, hm11578, hm11581⟩
             ·
              replace hR := ifF hR hc12049
              obtain ⟨hc12050, hR⟩ := hR
              subst hc12050
              refine W.regionT [(0, true), (1, true), (2, true), (3, true), (4, true), (5, true), (6, true), (7, true), (8, true), (9, true), (10, true), (11, true), (12, true), (13, true), (14, true), (15, true), (16, true)] (by kernel_rfl) ?_
              refine Plan.move_ptr rfl rfl <| Plan.move_int rfl rfl <| Plan.nilCheck rfl rfl <| Plan.fieldAddr0 FShaExact.fld49_0 rfl rfl <| Plan.idxArrO (j := 2) (o' := 2) FShaExact.arr46 rfl rfl rfl (by omega) rfl <| Plan.load0 h12037 14 rfl rfl rfl (by omega) FShaExact.sc37 <| Plan.neNil (b := true) FShaExact.ptr37 rfl rfl rfl rfl <| Plan.move_bool rfl rfl ?_
              refine Plan.move_ptr rfl rfl <| Plan.move_int rfl rfl <| Plan.nilCheck rfl rfl <| Plan.fieldAddr0 FShaExact.fld49_0 rfl rfl <| Plan.idxArrO (j := 2) (o' := 2) FShaExact.arr46 rfl rfl rfl (by omega) rfl <| Plan.load0 h12037 14 rfl rfl rfl (by omega) FShaExact.sc37 <| Plan.neNil (b := true) FShaExact.ptr37 rfl rfl rfl rfl <| Plan.pickTb rfl rfl rfl ?_
              refine Plan.assign_bool rfl rfl <| Plan.nil (k12038 _ _ ?_); clear k12038
              refine W.ret (finR_ret ?_)
              refine RetOk.mk (.tmp_bool rfl .nil) ?_
              exact ⟨true, m11564, m11565, m11566, m11568, m11569, m11570, m11572, m11573, m11574, m11575, m11578, m11581, hR, b11563, b11567, b11571, am11575, pm11575, cm11575, Fm11575, am11578, pm11578, cm11578, Fm11578, am11581, pm11581, cm11581, Fm11581, rfl, h12037, hm11575, hm11578, hm11581⟩
        ·
         rintro _ w12051 ⟨y_t11112, y_m11114, y_m11115, y_m11116, y_m11118, y_m11119, y_m11120, y_m11122, y_m11123, y_m11124, y_m11125, y_m11126, y_m11127, ⟨hy12051_0, hy12051_1, hy12051_2, hy12051_3, hy12051_4, hy12051_5, hy12051_6, hy12051_7, hy12051_8, hy12051_9, hy12051_10, hy12051_11, hy12051_12⟩, b11113, b11117, b11121, am11125, pm11125, cm11125, Fm11125, am11126, pm11126, cm11126, Fm11126, am11127, pm11127, cm11127, Fm11127, rfl, h12051, hm11125, hm11126, hm11127⟩
         subst hy12051_0
         subst hy12051_1
         subst hy12051_2
         subst hy12051_3
         subst hy12051_4
         subst hy12051_5
         subst hy12051_6
         subst hy12051_7
         subst hy12051_8
         subst hy12051_9
         subst hy12051_10
         subst hy12051_11
         subst hy12051_12
         replace hR := hR011128
         refine ⟨_, rfl, .inr ⟨rfl, ?_⟩⟩
         refine Plan.assign_bool rfl rfl <| Plan.nil (k10198 _ _ ?_); clear k10198
         refine W.ret (finR_ret ?_)
         refine RetOk.mk (.tmp_bool rfl .nil) ?_
         exact ⟨t11112, m11114, m11115, m11116, m11118, m11119, m11120, m11122, m11123, m11124, m11125, m11126, m11127, hR, b11113, b11117, b11121, am11125, pm11125, cm11125, Fm11125, am11126, pm11126, cm11126, Fm11126, am11127, pm11127, cm11127, Fm11127, rfl, h12051, hm11125, hm11126, hm11127⟩
     ·
      rintro _ w12052 ⟨y_script10106, y_m10108, y_m10109, y_m10110, y_m10112, y_m10113, y_m10114, y_m10116, y_m10117, y_m10118, y_m10119, y_m10120, y_m10121, ⟨hy12052_0, hy12052_1, hy12052_2, hy12052_3, hy12052_4, hy12052_5, hy12052_6, hy12052_7, hy12052_8, hy12052_9, hy12052_10, hy12052_11, hy12052_12⟩, b10107, b10111, b10115, am10119, pm10119, cm10119, Fm10119, am10120, pm10120, cm10120, Fm10120, am10121, pm10121, cm10121, Fm10121, rfl, h12052, hm10119, hm10120, hm10121⟩
      subst hy12052_0
      subst hy12052_1
      subst hy12052_2
      subst hy12052_3
      subst hy12052_4
      subst hy12052_5
      subst hy12052_6
      subst hy12052_7
      subst hy12052_8
      subst hy12052_9
      subst hy12052_10
      subst hy12052_11
      subst hy12052_12
      replace hR := hR010122
      refine ⟨_, rfl, .inr ⟨rfl, ?_⟩⟩
      refine Plan.assign_bool rfl rfl <| Plan.nil (k8177 _ _ ?_); clear k8177
      refine W.seq_k fun _ k12053 => W.regionT [(0, true), (1, true)] (by kernel_rfl) ?_
      refine Plan.move_bool rfl rfl <| Plan.not rfl rfl <| Plan.nil (k12053 _ _ ?_); clear k12053
      by_cases hc12054 : script10106 = true
      ·
       replace hR := ifT hR hc12054
       refine W.condF (congrArg Value.bool (congrArg Bool.not hc12054)) ?_
       refine W.skip ?_
       refine blockR_norm ?_
       refine k8176 _ _ ?_; clear k8176
       refine W.regionT [(0, true), (1, true), (2, true)] (by kernel_rfl) ?_
       refine Plan.move_int rfl rfl <| Plan.addN (a := i_8129) (b := 1) rfl rfl rfl (by omega) <| Plan.assign_int rfl rfl <| Plan.nil ?_
       exact iterR_norm ⟨_, hR, b10107, b10111, b10115, am10119, pm10119, cm10119, Fm10119, am10120, pm10120, cm10120, Fm10120, am10121, pm10121, cm10121, Fm10121, (zer (zer (zer zen))), h12052, hm10119, hm10120, hm10121⟩
      ·
       replace hR := ifF hR hc12054
       refine W.condT (congrArg Value.bool (congrArg Bool.not (Bool.eq_false_iff.2 hc12054))) ?_
       refine W.seq_k fun _ k12055 => W.regionT [(0, true)] (by kernel_rfl) ?_
       refine Plan.assign_bool rfl rfl <| Plan.nil (k12055 _ _ ?_); clear k12055
       refine W.ret (blockR_ret (thenR_ret (iterR_ret (blockR_ret (thenR_ret (thenR_ret (finR_ret ?_)))))))
       have h12056 := St.pickT (C := [_, _, _, _, _, _, _, _, _, _, _, _, _, _, _, _, _, _]) h12052 [] (by decide)
       simp only [pick, zfc, zfn, zgz, zgs, zca, zna] at h12056
       replace hR := hR.2
       subst r
       refine RetOk.mk (.tmp_bool rfl .nil) ?_
       exact ⟨rfl, h12056⟩
    ·
     replace hR := ifF hR hc8175
     refine W.condF (congrArg Value.bool (decide_eq_false hc8175)) ?_
     refine W.exit (thenR_exit (iterR_exit (blockR_here ?_)))
     exact ⟨m8131, m8132, m8133, m8135, m8136, m8137, m8139, m8140, m8141, m8142, m8144, m8146, (hx8163 _ hR).symm, b8130, b8134, b8138, am8142, pm8142, cm8142, Fm8142, am8144, pm8144, cm8144, Fm8144, am8146, pm8146, cm8146, Fm8146, (zer zen), h8168, hm8142, hm8144, hm8146⟩
   ·
    replace hR := ifF hR hc8174
    refine Plan.cmpV (a := (((i_8129 : Nat) : Int) : Int)) (b := (((script1.length : Nat) : Int) : Int)) (p := i_8129 < script1.length) (v := false) rfl rfl rfl rfl icmp_ltN (decide_eq_false hc8174) <| Plan.move_bool rfl rfl <| Plan.passed rfl <| Plan.passed rfl <| Plan.pickFb rfl rfl rfl <| Plan.nil (k8173 _ _ ?_); clear k8173
    refine W.condF rfl ?_
    refine W.exit (thenR_exit (iterR_exit (blockR_here ?_)))
    exact ⟨m8131, m8132, m8133, m8135, m8136, m8137, m8139, m8140, m8141, m8142, m8144, m8146, (hx8163 _ hR).symm, b8130, b8134, b8138, am8142, pm8142, cm8142, Fm8142, am8144, pm8144, cm8144, Fm8144, am8146, pm8146, cm8146, Fm8146, (zer zen), h8168, hm8142, hm8144, hm8146⟩
  ·
   rintro ev12057 wl12057 ⟨y_m8149, y_m8150, y_m8151, y_m8153, y_m8154, y_m8155, y_m8157, y_m8158, y_m8159, y_m8160, y_m8161, y_m8162, hy12057, b8148, b8152, b8156, am8160, pm8160, cm8160, Fm8160, am8161, pm8161, cm8161, Fm8161, am8162, pm8162, cm8162, Fm8162, he12057, h12057, hm8160, hm8161, hm8162⟩
   obtain ⟨ev12057, rfl⟩ := he12057.open
   replace hR := hR08163 y_m8149 y_m8150 y_m8151 y_m8153 y_m8154 y_m8155 y_m8157 y_m8158 y_m8159 y_m8160 y_m8161 y_m8162 hy12057
   obtain ⟨m8149, e_m8149⟩ : ∃ z, z = y_m8149 := ⟨_, rfl⟩; subst e_m8149
   obtain ⟨m8150, e_m8150⟩ : ∃ z, z = y_m8150 := ⟨_, rfl⟩; subst e_m8150
   obtain ⟨m8151, e_m8151⟩ : ∃ z, z = y_m8151 := ⟨_, rfl⟩; subst e_m8151
   obtain ⟨m8153, e_m8153⟩ : ∃ z, z = y_m8153 := ⟨_, rfl⟩; subst e_m8153
   obtain ⟨m8154, e_m8154⟩ : ∃ z, z = y_m8154 := ⟨_, rfl⟩; subst e_m8154
   obtain ⟨m8155, e_m8155⟩ : ∃ z, z = y_m8155 := ⟨_, rfl⟩; subst e_m8155
   obtain ⟨m8157, e_m8157⟩ : ∃ z, z = y_m8157 := ⟨_, rfl⟩; subst e_m8157
   obtain ⟨m8158, e_m8158⟩ : ∃ z, z = y_m8158 := ⟨_, rfl⟩; subst e_m8158
   obtain ⟨m8159, e_m8159⟩ : ∃ z, z = y_m8159 := ⟨_, rfl⟩; subst e_m8159
   obtain ⟨m8160, e_m8160⟩ : ∃ z, z = y_m8160 := ⟨_, rfl⟩; subst e_m8160
   obtain ⟨m8161, e_m8161⟩ : ∃ z, z = y_m8161 := ⟨_, rfl⟩; subst e_m8161
   obtain ⟨m8162, e_m8162⟩ : ∃ z, z = y_m8162 := ⟨_, rfl⟩; subst e_m8162
   refine k54 _ _ ?_; clear k54
   refine W.seq_k fun _ k12058 => W.regionT [(0, true), (1, true), (2, false), (3, true), (4, true), (5, true), (6, false), (7, true), (8, true), (9, true), (10, true), (11, false), (12, true), (13, true)] (by kernel_rfl) ?_
   refine Plan.move_ptr rfl rfl ?_
   refine Plan.buildP (ps := [(1, fun _ => VN 5), (1, fun _ => VN 0), (1, fun _ => VN 0), (1, fun _ => .slice none 0 0), (1, fun _ => .slice none 0 0), (8, fun q => VU .u32 ((fun _ => 0#32) q)), (64, fun q => VU .u8 ((fun _ => 0#8) q))]) FShaExact.pl52 (by decide) FShaExact.z52 rfl rfl (.one [] [(1, fun _ => VN 0), (1, fun _ => VN 0), (1, fun _ => .slice none 0 0), (1, fun _ => .slice none 0 0), (8, fun q => VU .u32 ((fun _ => 0#32) q)), (64, fun q => VU .u8 ((fun _ => 0#8) q))] (fun _ => VN 0) rfl rfl .nil) ?_
   obtain ⟨script12158, hX12159, hR012159⟩ := hR
   refine Plan.call (vs := [.pointer (some ⟨b10, 0, none⟩), AG [(1, fun _ => VN 5), (1, fun _ => VN 0), (1, fun _ => VN 0), (1, fun _ => .slice none 0 0), (1, fun _ => .slice none 0 0), (8, fun q => VU .u32 ((fun _ => 0#32) q)), (64, fun q => VU .u8 ((fun _ => 0#8) q))]]) (R := fun e w => ∃ y_script12158 : Bool, (script12158 = y_script12158) ∧ e = .returned (.bool y_script12158) ∧ St B w0 (⟨some b8148, 0, 8, fun q => VU .u32 (m8149 q), true⟩ :: ⟨some b8148, 8, 64, fun q => VU .u8 (m8150 q), true⟩ :: ⟨some b8148, 72, 1, fun _ => .int .i64 m8151, true⟩ :: ⟨some b8152, 0, 8, fun q => VU .u32 (m8153 q), true⟩ :: ⟨some b8152, 8, 64, fun q => VU .u8 (m8154 q), true⟩ :: ⟨some b8152, 72, 1, fun _ => .int .i64 m8155, true⟩ :: ⟨some b8156, 0, 8, fun q => VU .u32 (m8157 q), true⟩ :: ⟨some b8156, 8, 64, fun q => VU .u8 (m8158 q), true⟩ :: ⟨some b8156, 72, 1, fun _ => .int .i64 m8159, true⟩ :: ⟨pm8160, 0, cm8160, fun q => VU .u8 (Fm8160 q), true⟩ :: ⟨pm8161, 0, cm8161, fun q => VU .u8 (Fm8161 q), true⟩ :: ⟨pm8162, 0, cm8162, fun q => VU .u8 (Fm8162 q), true⟩ :: ⟨some b10, 0, 1, fun _ => .pointer (some ⟨b8148, 0, none⟩), true⟩ :: ⟨some b10, 1, 1, fun _ => .pointer (some ⟨b8152, 0, none⟩), true⟩ :: ⟨some b10, 2, 1, fun _ => .pointer (some ⟨b8156, 0, none⟩), true⟩ :: ⟨some b10, 3, 1, fun _ => .slice am8160 m8160.length cm8160, true⟩ :: ⟨some b10, 4, 1, fun _ => .slice am8161 m8161.length cm8161, true⟩ :: ⟨some b10, 5, 1, fun _ => .slice am8162 m8162.length cm8162, true⟩ :: L) w) rfl FShaExact.call29 rfl ?_ ?_
   ·
    replace hR := hX12159
    refine W.enter 167 Tryd.func29 rfl rfl rfl ?_
    refine W.seq_k fun _ k12160 => W.regionT [(0, false), (1, true)] (by kernel_rfl) ?_
    refine Plan.boxA h12057 rfl rfl PIn.nil fun b12161 w12161 hb12161 h12161 => ?_
    simp only [rngs, Nat.zero_add, Nat.reduceAdd, zca, zna] at h12161
    refine Plan.assign_bool rfl rfl <| Plan.nil (k12160 _ _ ?_); clear k12160
    refine W.seq_k fun _ k12162 => ?_
    refine W.regionD FShaExact.mixed [(0, true), (1, true), (3, true), (4, true), (2, false), (5, false), (6, true), (7, true)] (by kernel_rfl) ?_
    have h12163 := h12161.drew
    refine Plan.fieldAddr 1 FShaExact.fld52_1 rfl rfl <| Plan.load0 h12163 1 rfl rfl rfl (by omega) FShaExact.sc3 <| Plan.fieldAddr 2 FShaExact.fld52_2 rfl rfl <| Plan.load0 h12163 2 rfl rfl rfl (by omega) FShaExact.sc3 ?_
    obtain ⟨x_12165, hr12164, hR⟩ := hR
    refine Plan.call (vs := [VN 0, VN 3]) rfl FShaExact.call24 rfl (lethelaw02_rest_ok  hr12164 h12163) ?_
    rintro _ w12166 ⟨rfl, h12166⟩
    refine ⟨_, rfl, .inl ⟨PIn.keep (PIn.cons 2 rfl (PIn.cons 1 rfl PIn.nil)) h12166, ?_⟩⟩
    obtain ⟨x_12168, hr12167, hR⟩ := hR
    refine Plan.call (vs := [VN 0, VN 3]) rfl FShaExact.call24 rfl (lethelaw02_rest_ok  hr12167 h12166) ?_
    rintro _ w12169 ⟨rfl, h12169⟩
    refine ⟨_, rfl, .inl ⟨PIn.keep (PIn.cons 2 rfl (PIn.cons 1 rfl PIn.nil)) h12169, ?_⟩⟩
    refine Plan.assign_int rfl rfl <| Plan.assign_int rfl rfl <| Plan.nil (k12162 _ _ ?_); clear k12162
    refine W.seq_k fun _ k12170 => W.seq_k fun _ k12215 => ?_
    refine W.regionT [(0, true), (1, true)] (by kernel_rfl) ?_
    refine Plan.fieldAddr0 FShaExact.fld52_0 rfl rfl <| Plan.load0 h12169 0 rfl rfl rfl (by omega) FShaExact.sc3 <| Plan.nil (k12215 _ _ ?_); clear k12215
    refine W.block ?_
    refine W.seq_k fun _ k12216 => W.regionT [(0, true), (1, true)] (by kernel_rfl) ?_
    refine Plan.cmpP (a := (5 : Int)) (b := (3 : Int)) (p := (5 : Nat) = 3) rfl rfl rfl rfl icmp_eqN <| Plan.assign_bool rfl rfl <| Plan.nil (k12216 _ _ ?_); clear k12216
    refine W.condF rfl ?_
    refine W.seq_k fun _ k12217 => W.regionT [(0, true), (1, true)] (by kernel_rfl) ?_
    refine Plan.cmpP (a := (5 : Int)) (b := (4 : Int)) (p := (5 : Nat) = 4) rfl rfl rfl rfl icmp_eqN <| Plan.assign_bool rfl rfl <| Plan.nil (k12217 _ _ ?_); clear k12217
    refine W.condF rfl ?_
    refine W.seq_k fun _ k12218 => W.regionT [(0, true), (1, true)] (by kernel_rfl) ?_
    refine Plan.cmpP (a := (5 : Int)) (b := (5 : Int)) (p := (5 : Nat) = 5) rfl rfl rfl rfl icmp_eqN <| Plan.assign_bool rfl rfl <| Plan.nil (k12218 _ _ ?_); clear k12218
    refine W.condT rfl ?_
    refine W.seq_k fun _ k12219 => ?_
    by_cases hc12220 : x_12165 = 0
    ·
     replace hR := ifT hR hc12220
     subst hc12220
     refine W.regionD FShaExact.mixed [(0, true), (1, true), (2, true), (3, true), (4, true), (5, true), (7, true), (8, true), (9, true), (10, true), (11, true), (12, true), (13, true), (6, false), (14, true), (15, true), (16, true), (17, true), (18, true), (19, true), (20, true), (21, true), (23, true), (24, true), (25, true), (26, true), (27, true), (28, true), (22, false), (29, false), (30, true), (31, true), (32, true)] (by kernel_rfl) ?_
     have h12221 := h12169.drew
     refine Plan.move_ptr rfl rfl <| Plan.move_int rfl rfl <| Plan.nilCheck rfl rfl <| Plan.fieldAddr0 FShaExact.fld49_0 rfl rfl <| Plan.idxArrO (j := 0) (o' := 0) FShaExact.arr46 rfl rfl rfl (by omega) rfl <| Plan.load0 h12221 19 rfl rfl rfl (by omega) FShaExact.sc37 <| Plan.move_ptr rfl rfl <| Plan.move_int rfl rfl ?_
     refine Plan.nilCheck rfl rfl <| Plan.fieldAddr 3 FShaExact.fld49_1 rfl rfl <| Plan.idxArrO (j := 0) (o' := 3) FShaExact.arr47 rfl rfl rfl (by omega) rfl <| Plan.load0 h12221 22 rfl rfl rfl (by omega) FShaExact.sc22 <| Plan.len FShaExact.isl22 rfl rfl ?_
     have h12222 := St.pickT (C := [_, _, _, _, _, _, _, _, _, _, _, _, _, _, _, _, _, _, _, _, _, _, _, _, _]) h12221 [7, 8, 9, 0, 1, 2, 3, 4, 5, 6, 10, 11, 12, 13, 14, 15, 16, 17, 18, 19, 20, 21, 22, 23, 24] (by decide)
     simp only [pick, zfc, zfn, zgz, zgs, zca, zna] at h12222
     obtain ⟨x_12224, hr12223, hR⟩ := hR
     refine Plan.call (vs := [.pointer (some ⟨b8148, 0, none⟩)]) rfl FShaExact.call26 rfl (sha_Hash_Len_ok  hr12223 h12222) ?_
     rintro _ w12225 ⟨rfl, h12225⟩
     refine ⟨_, rfl, .inl ⟨PIn.keep (PIn.cons 22 rfl (PIn.cons 19 rfl PIn.nil)) h12225, ?_⟩⟩
     by_cases hc12226 : x_12224 = ((m8160.length : Nat) : Int)
     ·
      replace hR := ifT hR hc12226
      refine Plan.cmpV (a := (x_12224 : Int)) (b := (((m8160.length : Nat) : Int) : Int)) (p := x_12224 = ((m8160.length : Nat) : Int)) (v := true) rfl rfl rfl rfl icmp_eq (decide_eq_true hc12226) <| Plan.move_bool rfl rfl <| Plan.move_ptr rfl rfl <| Plan.move_int rfl rfl <| Plan.nilCheck rfl rfl <| Plan.fieldAddr0 FShaExact.fld49_0 rfl rfl <| Plan.idxArrO (j := 0) (o' := 0) FShaExact.arr46 rfl rfl rfl (by omega) rfl <| Plan.load0 h12225 19 rfl rfl rfl (by omega) FShaExact.sc37 ?_
      refine Plan.move_ptr rfl rfl <| Plan.move_int rfl rfl <| Plan.nilCheck rfl rfl <| Plan.fieldAddr 3 FShaExact.fld49_1 rfl rfl <| Plan.idxArrO (j := 0) (o' := 3) FShaExact.arr47 rfl rfl rfl (by omega) rfl <| Plan.load0 h12225 22 rfl rfl rfl (by omega) FShaExact.sc22 ?_
      obtain ⟨x_12228, hr12227, hR⟩ := hR
      refine Plan.call (vs := [.pointer (some ⟨b8148, 0, none⟩)]) rfl FShaExact.call27 rfl (sha_Hash_Sum_ok (iG0 := iG0 + 22) hG0 hr12227 h12225) ?_
      rintro _ w12229 ⟨rfl, h12229⟩
      refine ⟨_, rfl, .inl ⟨PIn.keep (PIn.cons 22 rfl (PIn.cons 19 rfl (PIn.cons 22 rfl (PIn.cons 19 rfl PIn.nil)))) h12229, ?_⟩⟩
      obtain ⟨x_12231, hr12230, hR⟩ := hR
      refine Plan.call (vs := [.slice am8160 m8160.length cm8160]) rfl FShaExact.call53 rfl (letheref02_Sum_ok (iG2 := iG2 + 25) hG2 (iG3 := iG3 + 25) hG3 (by exact (hm8160.bx 16 rfl)) hr12230 h12229) ?_
      rintro _ w12232 ⟨rfl, h12232⟩
      refine ⟨_, rfl, .inl ⟨PIn.keep (PIn.cons 22 rfl (PIn.cons 19 rfl (PIn.cons 22 rfl (PIn.cons 19 rfl PIn.nil)))) h12232, ?_⟩⟩
      refine Plan.eqArrV (b := (eqB 32 x_12228 x_12231)) FShaExact.arrI32 rfl rfl rfl rfl <| Plan.pickTb rfl rfl rfl <| Plan.assign_bool rfl rfl <| Plan.nil (k12219 _ _ ?_); clear k12219
      refine W.ret (blockR_ret (thenR_ret (finR_ret ?_)))
      have h12233 := St.pickT (C := [_, _, _, _, _, _, _, _, _, _, _, _, _, _, _, _, _, _, _, _, _, _, _, _, _]) h12232 [0, 1, 2, 10, 11, 12, 13, 14, 15, 16, 17, 18, 19, 20, 21, 22, 23, 24] (by decide)
      simp only [pick, zfc, zfn, zgz, zgs, zca, zna] at h12233
      refine RetOk.mk (.tmp_bool rfl .nil) ?_
      exact ⟨(eqB 32 x_12228 x_12231), hR, rfl, h12233⟩
     ·
      replace hR := ifF hR hc12226
      refine Plan.cmpV (a := (x_12224 : Int)) (b := (((m8160.length : Nat) : Int) : Int)) (p := x_12224 = ((m8160.length : Nat) : Int)) (v := false) rfl rfl rfl rfl icmp_eq (decide_eq_false hc12226) <| Plan.move_bool rfl rfl <| Plan.passed rfl <| Plan.passed rfl <| Plan.passed rfl <| Plan.passed rfl <| Plan.passed rfl <| Plan.passed rfl ?_
      refine Plan.passed rfl <| Plan.passed rfl <| Plan.passed rfl <| Plan.passed rfl <| Plan.passed rfl <| Plan.passed rfl <| Plan.passed rfl <| Plan.passed rfl ?_
      refine Plan.passed rfl <| Plan.pickFb rfl rfl rfl <| Plan.assign_bool rfl rfl <| Plan.nil (k12219 _ _ ?_); clear k12219
      refine W.ret (blockR_ret (thenR_ret (finR_ret ?_)))
      have h12234 := St.pickT (C := [_, _, _, _, _, _, _, _, _, _, _, _, _, _, _, _, _, _, _, _, _, _, _, _, _]) h12225 [0, 1, 2, 10, 11, 12, 13, 14, 15, 16, 17, 18, 19, 20, 21, 22, 23, 24] (by decide)
      simp only [pick, zfc, zfn, zgz, zgs, zca, zna] at h12234
      refine RetOk.mk (.tmp_bool rfl .nil) ?_
      exact ⟨false, hR, rfl, h12234⟩
    ·
     replace hR := ifF hR hc12220
     by_cases hc12235 : x_12165 = 1
     ·
      replace hR := ifT hR hc12235
      subst hc12235
      refine W.regionD FShaExact.mixed [(0, true), (1, true), (2, true), (3, true), (4, true), (5, true), (7, true), (8, true), (9, true), (10, true), (11, true), (12, true), (13, true), (6, false), (14, true), (15, true), (16, true), (17, true), (18, true), (19, true), (20, true), (21, true), (23, true), (24, true), (25, true), (26, true), (27, true), (28, true), (22, false), (29, false), (30, true), (31, true), (32, true)] (by kernel_rfl) ?_
      have h12236 := h12169.drew
      refine Plan.move_ptr rfl rfl <| Plan.move_int rfl rfl <| Plan.nilCheck rfl rfl <| Plan.fieldAddr0 FShaExact.fld49_0 rfl rfl <| Plan.idxArrO (j := 1) (o' := 1) FShaExact.arr46 rfl rfl rfl (by omega) rfl <| Plan.load0 h12236 20 rfl rfl rfl (by omega) FShaExact.sc37 <| Plan.move_ptr rfl rfl <| Plan.move_int rfl rfl ?_
      refine Plan.nilCheck rfl rfl <| Plan.fieldAddr 3 FShaExact.fld49_1 rfl rfl <| Plan.idxArrO (j := 1) (o' := 4) FShaExact.arr47 rfl rfl rfl (by omega) rfl <| Plan.load0 h12236 23 rfl rfl rfl (by omega) FShaExact.sc22 <| Plan.len FShaExact.isl22 rfl rfl ?_
      have h12237 := St.pickT (C := [_, _, _, _, _, _, _, _, _, _, _, _, _, _, _, _, _, _, _, _, _, _, _, _, _]) h12236 [10, 11, 12, 0, 1, 2, 3, 4, 5, 6, 7, 8, 9, 13, 14, 15, 16, 17, 18, 19, 20, 21, 22, 23, 24] (by decide)
      simp only [pick, zfc, zfn, zgz, zgs, zca, zna] at h12237
      obtain ⟨x_12239, hr12238, hR⟩ := hR
      refine Plan.call (vs := [.pointer (some ⟨b8152, 0, none⟩)]) rfl FShaExact.call26 rfl (sha_Hash_Len_ok  hr12238 h12237) ?_
      rintro _ w12240 ⟨rfl, h12240⟩
      refine ⟨_, rfl, .inl ⟨PIn.keep (PIn.cons 23 rfl (PIn.cons 20 rfl PIn.nil)) h12240, ?_⟩⟩
      by_cases hc12241 : x_12239 = ((m8161.length : Nat) : Int)
      ·
       replace hR := ifT hR hc12241
       refine Plan.cmpV (a := (x_12239 : Int)) (b := (((m8161.length : Nat) : Int) : Int)) (p := x_12239 = ((m8161.length : Nat) : Int)) (v := true) rfl rfl rfl rfl icmp_eq (decide_eq_true hc12241) <| Plan.move_bool rfl rfl <| Plan.move_ptr rfl rfl <| Plan.move_int rfl rfl <| Plan.nilCheck rfl rfl <| Plan.fieldAddr0 FShaExact.fld49_0 rfl rfl <| Plan.idxArrO (j := 1) (o' := 1) FShaExact.arr46 rfl rfl rfl (by omega) rfl <| Plan.load0 h12240 20 rfl rfl rfl (by omega) FShaExact.sc37 ?_
       refine Plan.move_ptr rfl rfl <| Plan.move_int rfl rfl <| Plan.nilCheck rfl rfl <| Plan.fieldAddr 3 FShaExact.fld49_1 rfl rfl <| Plan.idxArrO (j := 1) (o' := 4) FShaExact.arr47 rfl rfl rfl (by omega) rfl <| Plan.load0 h12240 23 rfl rfl rfl (by omega) FShaExact.sc22 ?_
       obtain ⟨x_12243, hr12242, hR⟩ := hR
       refine Plan.call (vs := [.pointer (some ⟨b8152, 0, none⟩)]) rfl FShaExact.call27 rfl (sha_Hash_Sum_ok (iG0 := iG0 + 22) hG0 hr12242 h12240) ?_
       rintro _ w12244 ⟨rfl, h12244⟩
       refine ⟨_, rfl, .inl ⟨PIn.keep (PIn.cons 23 rfl (PIn.cons 20 rfl (PIn.cons 23 rfl (PIn.cons 20 rfl PIn.nil)))) h12244, ?_⟩⟩
       obtain ⟨x_12246, hr12245, hR⟩ := hR
       refine Plan.call (vs := [.slice am8161 m8161.length cm8161]) rfl FShaExact.call53 rfl (letheref02_Sum_ok (iG2 := iG2 + 25) hG2 (iG3 := iG3 + 25) hG3 (by exact (hm8161.bx 17 rfl)) hr12245 h12244) ?_
       rintro _ w12247 ⟨rfl, h12247⟩
       refine ⟨_, rfl, .inl ⟨PIn.keep (PIn.cons 23 rfl (PIn.cons 20 rfl (PIn.cons 23 rfl (PIn.cons 20 rfl PIn.nil)))) h12247, ?_⟩⟩
       refine Plan.eqArrV (b := (eqB 32 x_12243 x_12246)) FShaExact.arrI32 rfl rfl rfl rfl <| Plan.pickTb rfl rfl rfl <| Plan.assign_bool rfl rfl <| Plan.nil (k12219 _ _ ?_); clear k12219
       refine W.ret (blockR_ret (thenR_ret (finR_ret ?_)))
       have h12248 := St.pickT (C := [_, _, _, _, _, _, _, _, _, _, _, _, _, _, _, _, _, _, _, _, _, _, _, _, _]) h12247 [10, 11, 12, 0, 1, 2, 13, 14, 15, 16, 17, 18, 19, 20, 21, 22, 23, 24] (by decide)
       simp only [pick, zfc, zfn, zgz, zgs, zca, zna] at h12248
       refine RetOk.mk (.tmp_bool rfl .nil) ?_
       exact ⟨(eqB 32 x_12243 x_12246), hR, rfl, h12248⟩
      ·
       replace hR := ifF hR hc12241
       refine Plan.cmpV (a := (x_12239 : Int)) (b := (((m8161.length : Nat) : Int) : Int)) (p := x_12239 = ((m8161.length : Nat) : Int)) (v := false) rfl rfl rfl rfl icmp_eq (decide_eq_false hc12241) <| Plan.move_bool rfl rfl <| Plan.passed rfl <| Plan.passed rfl <| Plan.passed rfl <| Plan.passed rfl <| Plan.passed rfl <| Plan.passed rfl ?_
       refine Plan.passed rfl <| Plan.passed rfl <| Plan.passed rfl <| Plan.passed rfl <| Plan.passed rfl <| Plan.passed rfl <| Plan.passed rfl <| Plan.passed rfl ?_
       refine Plan.passed rfl <| Plan.pickFb rfl rfl rfl <| Plan.assign_bool rfl rfl <| Plan.nil (k12219 _ _ ?_); clear k12219
       refine W.ret (blockR_ret (thenR_ret (finR_ret ?_)))
       have h12249 := St.pickT (C := [_, _, _, _, _, _, _, _, _, _, _, _, _, _, _, _, _, _, _, _, _, _, _, _, _]) h12240 [10, 11, 12, 0, 1, 2, 13, 14, 15, 16, 17, 18, 19, 20, 21, 22, 23, 24] (by decide)
       simp only [pick, zfc, zfn, zgz, zgs, zca, zna] at h12249
       refine RetOk.mk (.tmp_bool rfl .nil) ?_
       exact ⟨false, hR, rfl, h12249⟩
     ·
      replace hR := ifF hR hc12235
      obtain ⟨hc12250, hR⟩ := hR
      subst hc12250
      refine W.regionD FShaExact.mixed [(0, true), (1, true), (2, true), (3, true), (4, true), (5, true), (7, true), (8, true), (9, true), (10, true), (11, true), (12, true), (13, true), (6, false), (14, true), (15, true), (16, true), (17, true), (18, true), (19, true), (20, true), (21, true), (23, true), (24, true), (25, true), (26, true), (27, true), (28, true), (22, false), (29, false), (30, true), (31, true), (32, true)] (by kernel_rfl) ?_
      have h12251 := h12169.drew
      refine Plan.move_ptr rfl rfl <| Plan.move_int rfl rfl <| Plan.nilCheck rfl rfl <| Plan.fieldAddr0 FShaExact.fld49_0 rfl rfl <| Plan.idxArrO (j := 2) (o' := 2) FShaExact.arr46 rfl rfl rfl (by omega) rfl <| Plan.load0 h12251 21 rfl rfl rfl (by omega) FShaExact.sc37 <| Plan.move_ptr rfl rfl <| Plan.move_int rfl rfl ?_
      refine Plan.nilCheck rfl rfl <| Plan.fieldAddr 3 FShaExact.fld49_1 rfl rfl <| Plan.idxArrO (j := 2) (o' := 5) FShaExact.arr47 rfl rfl rfl (by omega) rfl <| Plan.load0 h12251 24 rfl rfl rfl (by omega) FShaExact.sc22 <| Plan.len FShaExact.isl22 rfl rfl ?_
      have h12252 := St.pickT (C := [_, _, _, _, _, _, _, _, _, _, _, _, _, _, _, _, _, _, _, _, _, _, _, _, _]) h12251 [13, 14, 15, 0, 1, 2, 3, 4, 5, 6, 7, 8, 9, 10, 11, 12, 16, 17, 18, 19, 20, 21, 22, 23, 24] (by decide)
      simp only [pick, zfc, zfn, zgz, zgs, zca, zna] at h12252
      obtain ⟨x_12254, hr12253, hR⟩ := hR
      refine Plan.call (vs := [.pointer (some ⟨b8156, 0, none⟩)]) rfl FShaExact.call26 rfl (sha_Hash_Len_ok  hr12253 h12252) ?_
      rintro _ w12255 ⟨rfl, h12255⟩
      refine ⟨_, rfl, .inl ⟨PIn.keep (PIn.cons 24 rfl (PIn.cons 21 rfl PIn.nil)) h12255, ?_⟩⟩
      by_cases hc12256 : x_12254 = ((m8162.length : Nat) : Int)
      ·
       replace hR := ifT hR hc12256
       refine Plan.cmpV (a := (x_12254 : Int)) (b := (((m8162.length : Nat) : Int) : Int)) (p := x_12254 = ((m8162.length : Nat) : Int)) (v := true) rfl rfl rfl rfl icmp_eq (decide_eq_true hc12256) <| Plan.move_bool rfl rfl <| Plan.move_ptr rfl rfl <| Plan.move_int rfl rfl <| Plan.nilCheck rfl rfl <| Plan.fieldAddr0 FShaExact.fld49_0 rfl rfl <| Plan.idxArrO (j := 2) (o' := 2) FShaExact.arr46 rfl rfl rfl (by omega) rfl <| Plan.load0 h12255 21 rfl rfl rfl (by omega) FShaExact.sc37 ?_
       refine Plan.move_ptr rfl rfl <| Plan.move_int rfl rfl <| Plan.nilCheck rfl rfl <| Plan.fieldAddr 3 FShaExact.fld49_1 rfl rfl <| Plan.idxArrO (j := 2) (o' := 5) FShaExact.arr47 rfl rfl rfl (by omega) rfl <| Plan.load0 h12255 24 rfl rfl rfl (by omega) FShaExact.sc22 ?_
       obtain ⟨x_12258, hr12257, hR⟩ := hR
       refine Plan.call (vs := [.pointer (some ⟨b8156, 0, none⟩)]) rfl FShaExact.call27 rfl (sha_Hash_Sum_ok (iG0 := iG0 + 22) hG0 hr12257 h12255) ?_
       rintro _ w12259 ⟨rfl, h12259⟩
       refine ⟨_, rfl, .inl ⟨PIn.keep (PIn.cons 24 rfl (PIn.cons 21 rfl (PIn.cons 24 rfl (PIn.cons 21 rfl PIn.nil)))) h12259, ?_⟩⟩
       obtain ⟨x_12261, hr12260, hR⟩ := hR
       refine Plan.call (vs := [.slice am8162 m8162.length cm8162]) rfl FShaExact.call53 rfl (letheref02_Sum_ok (iG2 := iG2 + 25) hG2 (iG3 := iG3 + 25) hG3 (by exact (hm8162.bx 18 rfl)) hr12260 h12259) ?_
       rintro _ w12262 ⟨rfl, h12262⟩
       refine ⟨_, rfl, .inl ⟨PIn.keep (PIn.cons 24 rfl (PIn.cons 21 rfl (PIn.cons 24 rfl (PIn.cons 21 rfl PIn.nil)))) h12262, ?_⟩⟩
       refine Plan.eqArrV (b := (eqB 32 x_12258 x_12261)) FShaExact.arrI32 rfl rfl rfl rfl <| Plan.pickTb rfl rfl rfl <| Plan.assign_bool rfl rfl <| Plan.nil (k12219 _ _ ?_); clear k12219
       refine W.ret (blockR_ret (thenR_ret (finR_ret ?_)))
       have h12263 := St.pickT (C := [_, _, _, _, _, _, _, _, _, _, _, _, _, _, _, _, _, _, _, _, _, _, _, _, _]) h12262 [10, 11, 12, 13, 14, 15, 0, 1, 2, 16, 17, 18, 19, 20, 21, 22, 23, 24] (by decide)
       simp only [pick, zfc, zfn, zgz, zgs, zca, zna] at h12263
       refine RetOk.mk (.tmp_bool rfl .nil) ?_
       exact ⟨(eqB 32 x_12258 x_12261), hR, rfl, h12263⟩
      ·
       replace hR := ifF hR hc12256
       refine Plan.cmpV (a := (x_12254 : Int)) (b := (((m8162.length : Nat) : Int) : Int)) (p := x_12254 = ((m8162.length : Nat) : Int)) (v := false) rfl rfl rfl rfl icmp_eq (decide_eq_false hc12256) <| Plan.move_bool rfl rfl <| Plan.passed rfl <| Plan.passed rfl <| Plan.passed rfl <| Plan.passed rfl <| Plan.passed rfl <| Plan.passed rfl ?_
       refine Plan.passed rfl <| Plan.passed rfl <| Plan.passed rfl <| Plan.passed rfl <| Plan.passed rfl <| Plan.passed rfl <| Plan.passed rfl <| Plan.passed rfl ?_
       refine Plan.passed rfl <| Plan.pickFb rfl rfl rfl <| Plan.assign_bool rfl rfl <| Plan.nil (k12219 _ _ ?_); clear k12219
       refine W.ret (blockR_ret (thenR_ret (finR_ret ?_)))
       have h12264 := St.pickT (C := [_, _, _, _, _, _, _, _, _, _, _, _, _, _, _, _, _, _, _, _, _, _, _, _, _]) h12255 [10, 11, 12, 13, 14, 15, 0, 1, 2, 16, 17, 18, 19, 20, 21, 22, 23, 24] (by decide)
       simp only [pick, zfc, zfn, zgz, zgs, zca, zna] at h12264
       refine RetOk.mk (.tmp_bool rfl .nil) ?_
       exact ⟨false, hR, rfl, h12264⟩
   ·
    rintro _ w12265 ⟨y_script12158, hy12265_0, rfl, h12265⟩
    subst hy12265_0
    replace hR := hR012159
    refine ⟨_, rfl, .inl ⟨PIn.keep PIn.nil h12265, ?_⟩⟩
    by_cases hc12266 : script12158 = true
    ·
     replace hR := ifT hR hc12266
     obtain rfl : script12158 = true := hc12266
     refine Plan.move_bool rfl rfl <| Plan.move_ptr rfl rfl ?_
     refine Plan.buildP (ps := [(1, fun _ => VN 5), (1, fun _ => VN 1), (1, fun _ => VN 0), (1, fun _ => .slice none 0 0), (1, fun _ => .slice none 0 0), (8, fun q => VU .u32 ((fun _ => 0#32) q)), (64, fun q => VU .u8 ((fun _ => 0#8) q))]) FShaExact.pl52 (by decide) FShaExact.z52 rfl rfl (.one [] [(1, fun _ => VN 0), (1, fun _ => VN 0), (1, fun _ => .slice none 0 0), (1, fun _ => .slice none 0 0), (8, fun q => VU .u32 ((fun _ => 0#32) q)), (64, fun q => VU .u8 ((fun _ => 0#8) q))] (fun _ => VN 0) rfl rfl (.one [(1, fun _ => VN 5)] [(1, fun _ => VN 0), (1, fun _ => .slice none 0 0), (1, fun _ => .slice none 0 0), (8, fun q => VU .u32 ((fun _ => 0#32) q)), (64, fun q => VU .u8 ((fun _ => 0#8) q))] (fun _ => VN 0) rfl rfl .nil)) ?_
     obtain ⟨script12366, hX12367, hR012367⟩ := hR
     refine Plan.call (vs := [.pointer (some ⟨b10, 0, none⟩), AG [(1, fun _ => VN 5), (1, fun _ => VN 1), (1, fun _ => VN 0), (1, fun _ => .slice none 0 0), (1, fun _ => .slice none 0 0), (8, fun q => VU .u32 ((fun _ => 0#32) q)), (64, fun q => VU .u8 ((fun _ => 0#8) q))]]) (R := fun e w => ∃ y_script12366 : Bool, (script12366 = y_script12366) ∧ e = .returned (.bool y_script12366) ∧ St B w0 (⟨some b8148, 0, 8, fun q => VU .u32 (m8149 q), true⟩ :: ⟨some b8148, 8, 64, fun q => VU .u8 (m8150 q), true⟩ :: ⟨some b8148, 72, 1, fun _ => .int .i64 m8151, true⟩ :: ⟨some b8152, 0, 8, fun q => VU .u32 (m8153 q), true⟩ :: ⟨some b8152, 8, 64, fun q => VU .u8 (m8154 q), true⟩ :: ⟨some b8152, 72, 1, fun _ => .int .i64 m8155, true⟩ :: ⟨some b8156, 0, 8, fun q => VU .u32 (m8157 q), true⟩ :: ⟨some b8156, 8, 64, fun q => VU .u8 (m8158 q), true⟩ :: ⟨some b8156, 72, 1, fun _ => .int .i64 m8159, true⟩ :: ⟨pm8160, 0, cm8160, fun q => VU .u8 (Fm8160 q), true⟩ :: ⟨pm8161, 0, cm8161, fun q => VU .u8 (Fm8161 q), true⟩ :: ⟨pm8162, 0, cm8162, fun q => VU .u8 (Fm8162 q), true⟩ :: ⟨some b10, 0, 1, fun _ => .pointer (some ⟨b8148, 0, none⟩), true⟩ :: ⟨some b10, 1, 1, fun _ => .pointer (some ⟨b8152, 0, none⟩), true⟩ :: ⟨some b10, 2, 1, fun _ => .pointer (some ⟨b8156, 0, none⟩), true⟩ :: ⟨some b10, 3, 1, fun _ => .slice am8160 m8160.length cm8160, true⟩ :: ⟨some b10, 4, 1, fun _ => .slice am8161 m8161.length cm8161, true⟩ :: ⟨some b10, 5, 1, fun _ => .slice am8162 m8162.length cm8162, true⟩ :: L) w) rfl FShaExact.call29 rfl ?_ ?_
     ·
      replace hR := hX12367
      refine W.enter 167 Tryd.func29 rfl rfl rfl ?_
      refine W.seq_k fun _ k12368 => W.regionT [(0, false), (1, true)] (by kernel_rfl) ?_
      refine Plan.boxA h12265 rfl rfl PIn.nil fun b12369 w12369 hb12369 h12369 => ?_
      simp only [rngs, Nat.zero_add, Nat.reduceAdd, zca, zna] at h12369
      refine Plan.assign_bool rfl rfl <| Plan.nil (k12368 _ _ ?_); clear k12368
      refine W.seq_k fun _ k12370 => ?_
      refine W.regionD FShaExact.mixed [(0, true), (1, true), (3, true), (4, true), (2, false), (5, false), (6, true), (7, true)] (by kernel_rfl) ?_
      have h12371 := h12369.drew
      refine Plan.fieldAddr 1 FShaExact.fld52_1 rfl rfl <| Plan.load0 h12371 1 rfl rfl rfl (by omega) FShaExact.sc3 <| Plan.fieldAddr 2 FShaExact.fld52_2 rfl rfl <| Plan.load0 h12371 2 rfl rfl rfl (by omega) FShaExact.sc3 ?_
      obtain ⟨x_12373, hr12372, hR⟩ := hR
      refine Plan.call (vs := [VN 1, VN 3]) rfl FShaExact.call24 rfl (lethelaw02_rest_ok  hr12372 h12371) ?_
      rintro _ w12374 ⟨rfl, h12374⟩
      refine ⟨_, rfl, .inl ⟨PIn.keep (PIn.cons 2 rfl (PIn.cons 1 rfl PIn.nil)) h12374, ?_⟩⟩
      obtain ⟨x_12376, hr12375, hR⟩ := hR
      refine Plan.call (vs := [VN 0, VN 3]) rfl FShaExact.call24 rfl (lethelaw02_rest_ok  hr12375 h12374) ?_
      rintro _ w12377 ⟨rfl, h12377⟩
      refine ⟨_, rfl, .inl ⟨PIn.keep (PIn.cons 2 rfl (PIn.cons 1 rfl PIn.nil)) h12377, ?_⟩⟩
      refine Plan.assign_int rfl rfl <| Plan.assign_int rfl rfl <| Plan.nil (k12370 _ _ ?_); clear k12370
      refine W.seq_k fun _ k12378 => W.seq_k fun _ k12423 => ?_
      refine W.regionT [(0, true), (1, true)] (by kernel_rfl) ?_
      refine Plan.fieldAddr0 FShaExact.fld52_0 rfl rfl <| Plan.load0 h12377 0 rfl rfl rfl (by omega) FShaExact.sc3 <| Plan.nil (k12423 _ _ ?_); clear k12423
      refine W.block ?_
      refine W.seq_k fun _ k12424 => W.regionT [(0, true), (1, true)] (by kernel_rfl) ?_
      refine Plan.cmpP (a := (5 : Int)) (b := (3 : Int)) (p := (5 : Nat) = 3) rfl rfl rfl rfl icmp_eqN <| Plan.assign_bool rfl rfl <| Plan.nil (k12424 _ _ ?_); clear k12424
      refine W.condF rfl ?_
      refine W.seq_k fun _ k12425 => W.regionT [(0, true), (1, true)] (by kernel_rfl) ?_
      refine Plan.cmpP (a := (5 : Int)) (b := (4 : Int)) (p := (5 : Nat) = 4) rfl rfl rfl rfl icmp_eqN <| Plan.assign_bool rfl rfl <| Plan.nil (k12425 _ _ ?_); clear k12425
      refine W.condF rfl ?_
      refine W.seq_k fun _ k12426 => W.regionT [(0, true), (1, true)] (by kernel_rfl) ?_
      refine Plan.cmpP (a := (5 : Int)) (b := (5 : Int)) (p := (5 : Nat) = 5) rfl rfl rfl rfl icmp_eqN <| Plan.assign_bool rfl rfl <| Plan.nil (k12426 _ _ ?_); clear k12426
      refine W.condT rfl ?_
      refine W.seq_k fun _ k12427 => ?_
      by_cases hc12428 : x_12373 = 0
      ·
       replace hR := ifT hR hc12428
       subst hc12428
       refine W.regionD FShaExact.mixed [(0, true), (1, true), (2, true), (3, true), (4, true), (5, true), (7, true), (8, true), (9, true), (10, true), (11, true), (12, true), (13, true), (6, false), (14, true), (15, true), (16, true), (17, true), (18, true), (19, true), (20, true), (21, true), (23, true), (24, true), (25, true), (26, true), (27, true), (28, true), (22, false), (29, false), (30, true), (31, true), (32, true)] (by kernel_rfl) ?_
       have h12429 := h12377.drew
       refine Plan.move_ptr rfl rfl <| Plan.move_int rfl rfl <| Plan.nilCheck rfl rfl <| Plan.fieldAddr0 FShaExact.fld49_0 rfl rfl <| Plan.idxArrO (j := 0) (o' := 0) FShaExact.arr46 rfl rfl rfl (by omega) rfl <| Plan.load0 h12429 19 rfl rfl rfl (by omega) FShaExact.sc37 <| Plan.move_ptr rfl rfl <| Plan.move_int rfl rfl ?_
       refine Plan.nilCheck rfl rfl <| Plan.fieldAddr 3 FShaExact.fld49_1 rfl rfl <| Plan.idxArrO (j := 0) (o' := 3) FShaExact.arr47 rfl rfl rfl (by omega) rfl <| Plan.load0 h12429 22 rfl rfl rfl (by omega) FShaExact.sc22 <| Plan.len FShaExact.isl22 rfl rfl ?_
       have h12430 := St.pickT (C := [_, _, _, _, _, _, _, _, _, _, _, _, _, _, _, _, _, _, _, _, _, _, _, _, _]) h12429 [7, 8, 9, 0, 1, 2, 3, 4, 5, 6, 10, 11, 12, 13, 14, 15, 16, 17, 18, 19, 20, 21, 22, 23, 24] (by decide)
       simp only [pick, zfc, zfn, zgz, zgs, zca, zna] at h12430
       obtain ⟨x_12432, hr12431, hR⟩ := hR
       refine Plan.call (vs := [.pointer (some ⟨b8148, 0, none⟩)]) rfl FShaExact.call26 rfl (sha_Hash_Len_ok  hr12431 h12430) ?_
       rintro _ w12433 ⟨rfl, h12433⟩
       refine ⟨_, rfl, .inl ⟨PIn.keep (PIn.cons 22 rfl (PIn.cons 19 rfl PIn.nil)) h12433, ?_⟩⟩
       by_cases hc12434 : x_12432 = ((m8160.length : Nat) : Int)
       ·
        replace hR := ifT hR hc12434
        refine Plan.cmpV (a := (x_12432 : Int)) (b := (((m8160.length : Nat) : Int) : Int)) (p := x_12432 = ((m8160.length : Nat) : Int)) (v := true) rfl rfl rfl rfl icmp_eq (decide_eq_true hc12434) <| Plan.move_bool rfl rfl <| Plan.move_ptr rfl rfl <| Plan.move_int rfl rfl <| Plan.nilCheck rfl rfl <| Plan.fieldAddr0 FShaExact.fld49_0 rfl rfl <| Plan.idxArrO (j := 0) (o' := 0) FShaExact.arr46 rfl rfl rfl (by omega) rfl <| Plan.load0 h12433 19 rfl rfl rfl (by omega) FShaExact.sc37 ?_
        refine Plan.move_ptr rfl rfl <| Plan.move_int rfl rfl <| Plan.nilCheck rfl rfl <| Plan.fieldAddr 3 FShaExact.fld49_1 rfl rfl <| Plan.idxArrO (j := 0) (o' := 3) FShaExact.arr47 rfl rfl rfl (by omega) rfl <| Plan.load0 h12433 22 rfl rfl rfl (by omega) FShaExact.sc22 ?_
        obtain ⟨x_12436, hr12435, hR⟩ := hR
        refine Plan.call (vs := [.pointer (some ⟨b8148, 0, none⟩)]) rfl FShaExact.call27 rfl (sha_Hash_Sum_ok (iG0 := iG0 + 22) hG0 hr12435 h12433) ?_
        rintro _ w12437 ⟨rfl, h12437⟩
        refine ⟨_, rfl, .inl ⟨PIn.keep (PIn.cons 22 rfl (PIn.cons 19 rfl (PIn.cons 22 rfl (PIn.cons 19 rfl PIn.nil)))) h12437, ?_⟩⟩
        obtain ⟨x_12439, hr12438, hR⟩ := hR
        refine Plan.call (vs := [.slice am8160 m8160.length cm8160]) rfl FShaExact.call53 rfl (letheref02_Sum_ok (iG2 := iG2 + 25) hG2 (iG3 := iG3 + 25) hG3 (by exact (hm8160.bx 16 rfl)) hr12438 h12437) ?_
        rintro _ w12440 ⟨rfl, h12440⟩
        refine ⟨_, rfl, .inl ⟨PIn.keep (PIn.cons 22 rfl (PIn.cons 19 rfl (PIn.cons 22 rfl (PIn.cons 19 rfl PIn.nil)))) h12440, ?_⟩⟩
        refine Plan.eqArrV (b := (eqB 32 x_12436 x_12439)) FShaExact.arrI32 rfl rfl rfl rfl <| Plan.pickTb rfl rfl rfl <| Plan.assign_bool rfl rfl <| Plan.nil (k12427 _ _ ?_); clear k12427
        refine W.ret (blockR_ret (thenR_ret (finR_ret ?_)))
        have h12441 := St.pickT (C := [_, _, _, _, _, _, _, _, _, _, _, _, _, _, _, _, _, _, _, _, _, _, _, _, _]) h12440 [0, 1, 2, 10, 11, 12, 13, 14, 15, 16, 17, 18, 19, 20, 21, 22, 23, 24] (by decide)
        simp only [pick, zfc, zfn, zgz, zgs, zca, zna] at h12441
        refine RetOk.mk (.tmp_bool rfl .nil) ?_
        exact ⟨(eqB 32 x_12436 x_12439), hR, rfl, h12441⟩
       ·
        replace hR := ifF hR hc12434
        refine Plan.cmpV (a := (x_12432 : Int)) (b := (((m8160.length : Nat) : Int) : Int)) (p := x_12432 = ((m8160.length : Nat) : Int)) (v := false) rfl rfl rfl rfl icmp_eq (decide_eq_false hc12434) <| Plan.move_bool rfl rfl <| Plan.passed rfl <| Plan.passed rfl <| Plan.passed rfl <| Plan.passed rfl <| Plan.passed rfl <| Plan.passed rfl ?_
        refine Plan.passed rfl <| Plan.passed rfl <| Plan.passed rfl <| Plan.passed rfl <| Plan.passed rfl <| Plan.passed rfl <| Plan.passed rfl <| Plan.passed rfl ?_
        refine Plan.passed rfl <| Plan.pickFb rfl rfl rfl <| Plan.assign_bool rfl rfl <| Plan.nil (k12427 _ _ ?_); clear k12427
        refine W.ret (blockR_ret (thenR_ret (finR_ret ?_)))
        have h12442 := St.pickT (C := [_, _, _, _, _, _, _, _, _, _, _, _, _, _, _, _, _, _, _, _, _, _, _, _, _]) h12433 [0, 1, 2, 10, 11, 12, 13, 14, 15, 16, 17, 18, 19, 20, 21, 22, 23, 24] (by decide)
        simp only [pick, zfc, zfn, zgz, zgs, zca, zna] at h12442
        refine RetOk.mk (.tmp_bool rfl .nil) ?_
        exact ⟨false, hR, rfl, h12442⟩
      ·
       replace hR := ifF hR hc12428
       by_cases hc12443 : x_12373 = 1
       ·
        replace hR := ifT hR hc12443
        subst hc12443
        refine W.regionD FShaExact.mixed [(0, true), (1, true), (2, true), (3, true), (4, true), (5, true), (7, true), (8, true), (9, true), (10, true), (11, true), (12, true), (13, true), (6, false), (14, true), (15, true), (16, true), (17, true), (18, true), (19, true), (20, true), (21, true), (23, true), (24, true), (25, true), (26, true), (27, true), (28, true), (22, false), (29, false), (30, true), (31, true), (32, true)] (by kernel_rfl) ?_
        have h12444 := h12377.drew
        refine Plan.move_ptr rfl rfl <| Plan.move_int rfl rfl <| Plan.nilCheck rfl rfl <| Plan.fieldAddr0 FShaExact.fld49_0 rfl rfl <| Plan.idxArrO (j := 1) (o' := 1) FShaExact.arr46 rfl rfl rfl (by omega) rfl <| Plan.load0 h12444 20 rfl rfl rfl (by omega) FShaExact.sc37 <| Plan.move_ptr rfl rfl <| Plan.move_int rfl rfl ?_
        refine Plan.nilCheck rfl rfl <| Plan.fieldAddr 3 FShaExact.fld49_1 rfl rfl <| Plan.idxArrO (j := 1) (o' := 4) FShaExact.arr47 rfl rfl rfl (by omega) rfl <| Plan.load0 h12444 23 rfl rfl rfl (by omega) FShaExact.sc22 <| Plan.len FShaExact.isl22 rfl rfl ?_
        have h12445 := St.pickT (C := [_, _, _, _, _, _, _, _, _, _, _, _, _, _, _, _, _, _, _, _, _, _, _, _, _]) h12444 [10, 11, 12, 0, 1, 2, 3, 4, 5, 6, 7, 8, 9, 13, 14, 15, 16, 17, 18, 19, 20, 21, 22, 23, 24] (by decide)
        simp only [pick, zfc, zfn, zgz, zgs, zca, zna] at h12445
        obtain ⟨x_12447, hr12446, hR⟩ := hR
        refine Plan.call (vs := [.pointer (some ⟨b8152, 0, none⟩)]) rfl FShaExact.call26 rfl (sha_Hash_Len_ok  hr12446 h12445) ?_
        rintro _ w12448 ⟨rfl, h12448⟩
        refine ⟨_, rfl, .inl ⟨PIn.keep (PIn.cons 23 rfl (PIn.cons 20 rfl PIn.nil)) h12448, ?_⟩⟩
        by_cases hc12449 : x_12447 = ((m8161.length : Nat) : Int)
        ·
         replace hR := ifT hR hc12449
         refine Plan.cmpV (a := (x_12447 : Int)) (b := (((m8161.length : Nat) : Int) : Int)) (p := x_12447 = ((m8161.length : Nat) : Int)) (v := true) rfl rfl rfl rfl icmp_eq (decide_eq_true hc12449) <| Plan.move_bool rfl rfl <| Plan.move_ptr rfl rfl <| Plan.move_int rfl rfl <| Plan.nilCheck rfl rfl <| Plan.fieldAddr0 FShaExact.fld49_0 rfl rfl <| Plan.idxArrO (j := 1) (o' := 1) FShaExact.arr46 rfl rfl rfl (by omega) rfl <| Plan.load0 h12448 20 rfl rfl rfl (by omega) FShaExact.sc37 ?_
         refine Plan.move_ptr rfl rfl <| Plan.move_int rfl rfl <| Plan.nilCheck rfl rfl <| Plan.fieldAddr 3 FShaExact.fld49_1 rfl rfl <| Plan.idxArrO (j := 1) (o' := 4) FShaExact.arr47 rfl rfl rfl (by omega) rfl <| Plan.load0 h12448 23 rfl rfl rfl (by omega) FShaExact.sc22 ?_
         obtain ⟨x_12451, hr12450, hR⟩ := hR
         refine Plan.call (vs := [.pointer (some ⟨b8152, 0, none⟩)]) rfl FShaExact.call27 rfl (sha_Hash_Sum_ok (iG0 := iG0 + 22) hG0 hr12450 h12448) ?_
         rintro _ w12452 ⟨rfl, h12452⟩
         refine ⟨_, rfl, .inl ⟨PIn.keep (PIn.cons 23 rfl (PIn.cons 20 rfl (PIn.cons 23 rfl (PIn.cons 20 rfl PIn.nil)))) h12452, ?_⟩⟩
         obtain ⟨x_12454, hr12453, hR⟩ := hR
         refine Plan.call (vs := [.slice am8161 m8161.length cm8161]) rfl FShaExact.call53 rfl (letheref02_Sum_ok (iG2 := iG2 + 25) hG2 (iG3 := iG3 + 25) hG3 (by exact (hm8161.bx 17 rfl)) hr12453 h12452) ?_
         rintro _ w12455 ⟨rfl, h12455⟩
         refine ⟨_, rfl, .inl ⟨PIn.keep (PIn.cons 23 rfl (PIn.cons 20 rfl (PIn.cons 23 rfl (PIn.cons 20 rfl PIn.nil)))) h12455, ?_⟩⟩
         refine Plan.eqArrV (b := (eqB 32 x_12451 x_12454)) FShaExact.arrI32 rfl rfl rfl rfl <| Plan.pickTb rfl rfl rfl <| Plan.assign_bool rfl rfl <| Plan.nil (k12427 _ _ ?_); clear k12427
         refine W.ret (blockR_ret (thenR_ret (finR_ret ?_)))
         have h12456 := St.pickT (C := [_, _, _, _, _, _, _, _, _, _, _, _, _, _, _, _, _, _, _, _, _, _, _, _, _]) h12455 [10, 11, 12, 0, 1, 2, 13, 14, 15, 16, 17, 18, 19, 20, 21, 22, 23, 24] (by decide)
         simp only [pick, zfc, zfn, zgz, zgs, zca, zna] at h12456
         refine RetOk.mk (.tmp_bool rfl .nil) ?_
         exact ⟨(eqB 32 x_12451 x_12454), hR, rfl, h12456⟩
        ·
         replace hR := ifF hR hc12449
         refine Plan.cmpV (a := (x_12447 : Int)) (b := (((m8161.length : Nat) : Int) : Int)) (p := x_12447 = ((m8161.length : Nat) : Int)) (v := false) rfl rfl rfl rfl icmp_eq (decide_eq_false hc12449) <| Plan.move_bool rfl rfl <| Plan.passed rfl <| Plan.passed rfl <| Plan.passed rfl <| Plan.passed rfl <| Plan.passed rfl <| Plan.passed rfl ?_
         refine Plan.passed rfl <| Plan.passed rfl <| Plan.passed rfl <| Plan.passed rfl <| Plan.passed rfl <| Plan.passed rfl <| Plan.passed rfl <| Plan.passed rfl ?_
         refine Plan.passed rfl <| Plan.pickFb rfl rfl rfl <| Plan.assign_bool rfl rfl <| Plan.nil (k12427 _ _ ?_); clear k12427
         refine W.ret (blockR_ret (thenR_ret (finR_ret ?_)))
         have h12457 := St.pickT (C := [_, _, _, _, _, _, _, _, _, _, _, _, _, _, _, _, _, _, _, _, _, _, _, _, _]) h12448 [10, 11, 12, 0, 1, 2, 13, 14, 15, 16, 17, 18, 19, 20, 21, 22, 23, 24] (by decide)
         simp only [pick, zfc, zfn, zgz, zgs, zca, zna] at h12457
         refine RetOk.mk (.tmp_bool rfl .nil) ?_
         exact ⟨false, hR, rfl, h12457⟩
       ·
        replace hR := ifF hR hc12443
        obtain ⟨hc12458, hR⟩ := hR
        subst hc12458
        refine W.regionD FShaExact.mixed [(0, true), (1, true), (2, true), (3, true), (4, true), (5, true), (7, true), (8, true), (9, true), (10, true), (11, true), (12, true), (13, true), (6, false), (14, true), (15, true), (16, true), (17, true), (18, true), (19, true), (20, true), (21, true), (23, true), (24, true), (25, true), (26, true), (27, true), (28, true), (22, false), (29, false), (30, true), (31, true), (32, true)] (by kernel_rfl) ?_
        have h12459 := h12377.drew
        refine Plan.move_ptr rfl rfl <| Plan.move_int rfl rfl <| Plan.nilCheck rfl rfl <| Plan.fieldAddr0 FShaExact.fld49_0 rfl rfl <| Plan.idxArrO (j := 2) (o' := 2) FShaExact.arr46 rfl rfl rfl (by omega) rfl <| Plan.load0 h12459 21 rfl rfl rfl (by omega) FShaExact.sc37 <| Plan.move_ptr rfl rfl <| Plan.move_int rfl rfl ?_
        refine Plan.nilCheck rfl rfl <| Plan.fieldAddr 3 FShaExact.fld49_1 rfl rfl <| Plan.idxArrO (j := 2) (o' := 5) FShaExact.arr47 rfl rfl rfl (by omega) rfl <| Plan.load0 h12459 24 rfl rfl rfl (by omega) FShaExact.sc22 <| Plan.len FShaExact.isl22 rfl rfl ?_
        have h12460 := St.pickT (C := [_, _, _, _, _, _, _, _, _, _, _, _, _, _, _, _, _, _, _, _, _, _, _, _, _]) h12459 [13, 14, 15, 0, 1, 2, 3, 4, 5, 6, 7, 8, 9, 10, 11, 12, 16, 17, 18, 19, 20, 21, 22, 23, 24] (by decide)
        simp only [pick, zfc, zfn, zgz, zgs, zca, zna] at h12460
        obtain ⟨x_12462, hr12461, hR⟩ := hR
        refine Plan.call (vs := [.pointer (some ⟨b8156, 0, none⟩)]) rfl FShaExact.call26 rfl (sha_Hash_Len_ok  hr12461 h12460) ?_
        rintro _ w12463 ⟨rfl, h12463⟩
        refine ⟨_, rfl, .inl ⟨PIn.keep (PIn.cons 24 rfl (PIn.cons 21 rfl PIn.nil)) h12463, ?_⟩⟩
        by_cases hc12464 : x_12462 = ((m8162.length : Nat) : Int)
        ·
         replace hR := ifT hR hc12464
         refine Plan.cmpV (a := (x_12462 : Int)) (b := (((m8162.length : Nat) : Int) : Int)) (p := x_12462 = ((m8162.length : Nat) : Int)) (v := true) rfl rfl rfl rfl icmp_eq (decide_eq_true hc12464) <| Plan.move_bool rfl rfl <| Plan.move_ptr rfl rfl <| Plan.move_int rfl rfl <| Plan.nilCheck rfl rfl <| Plan.fieldAddr0 FShaExact.fld49_0 rfl rfl <| Plan.idxArrO (j := 2) (o' := 2) FShaExact.arr46 rfl rfl rfl (by omega) rfl <| Plan.load0 h12463 21 rfl rfl rfl (by omega) FShaExact.sc37 ?_
         refine Plan.move_ptr rfl rfl <| Plan.move_int rfl rfl <| Plan.nilCheck rfl rfl <| Plan.fieldAddr 3 FShaExact.fld49_1 rfl rfl <| Plan.idxArrO (j := 2) (o' := 5) FShaExact.arr47 rfl rfl rfl (by omega) rfl <| Plan.load0 h12463 24 rfl rfl rfl (by omega) FShaExact.sc22 ?_
         obtain ⟨x_12466, hr12465, hR⟩ := hR
         refine Plan.call (vs := [.pointer (some ⟨b8156, 0, none⟩)]) rfl FShaExact.call27 rfl (sha_Hash_Sum_ok (iG0 := iG0 + 22) hG0 hr12465 h12463) ?_
         rintro _ w12467 ⟨rfl, h12467⟩
         refine ⟨_, rfl, .inl ⟨PIn.keep (PIn.cons 24 rfl (PIn.cons 21 rfl (PIn.cons 24 rfl (PIn.cons 21 rfl PIn.nil)))) h12467, ?_⟩⟩
         obtain ⟨x_12469, hr12468, hR⟩ := hR
         refine Plan.call (vs := [.slice am8162 m8162.length cm8162]) rfl FShaExact.call53 rfl (letheref02_Sum_ok (iG2 := iG2 + 25) hG2 (iG3 := iG3 + 25) hG3 (by exact (hm8162.bx 18 rfl)) hr12468 h12467) ?_
         rintro _ w12470 ⟨rfl, h12470⟩
         refine ⟨_, rfl, .inl ⟨PIn.keep (PIn.cons 24 rfl (PIn.cons 21 rfl (PIn.cons 24 rfl (PIn.cons 21 rfl PIn.nil)))) h12470, ?_⟩⟩
         refine Plan.eqArrV (b := (eqB 32 x_12466 x_12469)) FShaExact.arrI32 rfl rfl rfl rfl <| Plan.pickTb rfl rfl rfl <| Plan.assign_bool rfl rfl <| Plan.nil (k12427 _ _ ?_); clear k12427
         refine W.ret (blockR_ret (thenR_ret (finR_ret ?_)))
         have h12471 := St.pickT (C := [_, _, _, _, _, _, _, _, _, _, _, _, _, _, _, _, _, _, _, _, _, _, _, _, _]) h12470 [10, 11, 12, 13, 14, 15, 0, 1, 2, 16, 17, 18, 19, 20, 21, 22, 23, 24] (by decide)
         simp only [pick, zfc, zfn, zgz, zgs, zca, zna] at h12471
         refine RetOk.mk (.tmp_bool rfl .nil) ?_
         exact ⟨(eqB 32 x_12466 x_12469), hR, rfl, h12471⟩
        ·
         replace hR := ifF hR hc12464
         refine Plan.cmpV (a := (x_12462 : Int)) (b := (((m8162.length : Nat) : Int) : Int)) (p := x_12462 = ((m8162.length : Nat) : Int)) (v := false) rfl rfl rfl rfl icmp_eq (decide_eq_false hc12464) <| Plan.move_bool rfl rfl <| Plan.passed rfl <| Plan.passed rfl <| Plan.passed rfl <| Plan.passed rfl <| Plan.passed rfl <| Plan.passed rfl ?_
         refine Plan.passed rfl <| Plan.passed rfl <| Plan.passed rfl <| Plan.passed rfl <| Plan.passed rfl <| Plan.passed rfl <| Plan.passed rfl <| Plan.passed rfl ?_
         refine Plan.passed rfl <| Plan.pickFb rfl rfl rfl <| Plan.assign_bool rfl rfl <| Plan.nil (k12427 _ _ ?_); clear k12427
         refine W.ret (blockR_ret (thenR_ret (finR_ret ?_)))
         have h12472 := St.pickT (C := [_, _, _, _, _, _, _, _, _, _, _, _, _, _, _, _, _, _, _, _, _, _, _, _, _]) h12463 [10, 11, 12, 13, 14, 15, 0, 1, 2, 16, 17, 18, 19, 20, 21, 22, 23, 24] (by decide)
         simp only [pick, zfc, zfn, zgz, zgs, zca, zna] at h12472
         refine RetOk.mk (.tmp_bool rfl .nil) ?_
         exact ⟨false, hR, rfl, h12472⟩
     ·
      rintro _ w12473 ⟨y_script12366, hy12473_0, rfl, h12473⟩
      subst hy12473_0
      replace hR := hR012367
      refine ⟨_, rfl, .inl ⟨PIn.keep PIn.nil h12473, ?_⟩⟩
      by_cases hc12474 : script12366 = true
      ·
       replace hR := ifT hR hc12474
       obtain rfl : script12366 = true := hc12474
       refine Plan.pickTb rfl rfl rfl <| Plan.move_bool rfl rfl <| Plan.move_ptr rfl rfl ?_
       refine Plan.buildP (ps := [(1, fun _ => VN 5), (1, fun _ => VN 2), (1, fun _ => VN 0), (1, fun _ => .slice none 0 0), (1, fun _ => .slice none 0 0), (8, fun q => VU .u32 ((fun _ => 0#32) q)), (64, fun q => VU .u8 ((fun _ => 0#8) q))]) FShaExact.pl52 (by decide) FShaExact.z52 rfl rfl (.one [] [(1, fun _ => VN 0), (1, fun _ => VN 0), (1, fun _ => .slice none 0 0), (1, fun _ => .slice none 0 0), (8, fun q => VU .u32 ((fun _ => 0#32) q)), (64, fun q => VU .u8 ((fun _ => 0#8) q))] (fun _ => VN 0) rfl rfl (.one [(1, fun _ => VN 5)] [(1, fun _ => VN 0), (1, fun _ => .slice none 0 0), (1, fun _ => .slice none 0 0), (8, fun q => VU .u32 ((fun _ => 0#32) q)), (64, fun q => VU .u8 ((fun _ => 0#8) q))] (fun _ => VN 0) rfl rfl .nil)) ?_
       obtain ⟨script12574, hX12575, hR012575⟩ := hR
       refine Plan.call (vs := [.pointer (some ⟨b10, 0, none⟩), AG [(1, fun _ => VN 5), (1, fun _ => VN 2), (1, fun _ => VN 0), (1, fun _ => .slice none 0 0), (1, fun _ => .slice none 0 0), (8, fun q => VU .u32 ((fun _ => 0#32) q)), (64, fun q => VU .u8 ((fun _ => 0#8) q))]]) (R := fun e w => ∃ y_script12574 : Bool, (script12574 = y_script12574) ∧ e = .returned (.bool y_script12574) ∧ St B w0 (L) w) rfl FShaExact.call29 rfl ?_ ?_
       ·
        replace hR := hX12575
        refine W.enter 167 Tryd.func29 rfl rfl rfl ?_
        refine W.seq_k fun _ k12576 => W.regionT [(0, false), (1, true)] (by kernel_rfl) ?_
        refine Plan.boxA h12473 rfl rfl PIn.nil fun b12577 w12577 hb12577 h12577 => ?_
        simp only [rngs, Nat.zero_add, Nat.reduceAdd, zca, zna] at h12577
        refine Plan.assign_bool rfl rfl <| Plan.nil (k12576 _ _ ?_); clear k12576
        refine W.seq_k fun _ k12578 => ?_
        refine W.regionD FShaExact.mixed [(0, true), (1, true), (3, true), (4, true), (2, false), (5, false), (6, true), (7, true)] (by kernel_rfl) ?_
        have h12579 := h12577.drew
        refine Plan.fieldAddr 1 FShaExact.fld52_1 rfl rfl <| Plan.load0 h12579 1 rfl rfl rfl (by omega) FShaExact.sc3 <| Plan.fieldAddr 2 FShaExact.fld52_2 rfl rfl <| Plan.load0 h12579 2 rfl rfl rfl (by omega) FShaExact.sc3 ?_
        obtain ⟨x_12581, hr12580, hR⟩ := hR
        refine Plan.call (vs := [VN 2, VN 3]) rfl FShaExact.call24 rfl (lethelaw02_rest_ok  hr12580 h12579) ?_
        rintro _ w12582 ⟨rfl, h12582⟩
        refine ⟨_, rfl, .inl ⟨PIn.keep (PIn.cons 2 rfl (PIn.cons 1 rfl PIn.nil)) h12582, ?_⟩⟩
        obtain ⟨x_12584, hr12583, hR⟩ := hR
        refine Plan.call (vs := [VN 0, VN 3]) rfl FShaExact.call24 rfl (lethelaw02_rest_ok  hr12583 h12582) ?_
        rintro _ w12585 ⟨rfl, h12585⟩
        refine ⟨_, rfl, .inl ⟨PIn.keep (PIn.cons 2 rfl (PIn.cons 1 rfl PIn.nil)) h12585, ?_⟩⟩
        refine Plan.assign_int rfl rfl <| Plan.assign_int rfl rfl <| Plan.nil (k12578 _ _ ?_); clear k12578
        refine W.seq_k fun _ k12586 => W.seq_k fun _ k12631 => ?_
        refine W.regionT [(0, true), (1, true)] (by kernel_rfl) ?_
        refine Plan.fieldAddr0 FShaExact.fld52_0 rfl rfl <| Plan.load0 h12585 0 rfl rfl rfl (by omega) FShaExact.sc3 <| Plan.nil (k12631 _ _ ?_); clear k12631
        refine W.block ?_
        refine W.seq_k fun _ k12632 => W.regionT [(0, true), (1, true)] (by kernel_rfl) ?_
        refine Plan.cmpP (a := (5 : Int)) (b := (3 : Int)) (p := (5 : Nat) = 3) rfl rfl rfl rfl icmp_eqN <| Plan.assign_bool rfl rfl <| Plan.nil (k12632 _ _ ?_); clear k12632
        refine W.condF rfl ?_
        refine W.seq_k fun _ k12633 => W.regionT [(0, true), (1, true)] (by kernel_rfl) ?_
        refine Plan.cmpP (a := (5 : Int)) (b := (4 : Int)) (p := (5 : Nat) = 4) rfl rfl rfl rfl icmp_eqN <| Plan.assign_bool rfl rfl <| Plan.nil (k12633 _ _ ?_); clear k12633
        refine W.condF rfl ?_
        refine W.seq_k fun _ k12634 => W.regionT [(0, true), (1, true)] (by kernel_rfl) ?_
        refine Plan.cmpP (a := (5 : Int)) (b := (5 : Int)) (p := (5 : Nat) = 5) rfl rfl rfl rfl icmp_eqN <| Plan.assign_bool rfl rfl <| Plan.nil (k12634 _ _ ?_); clear k12634
        refine W.condT rfl ?_
        refine W.seq_k fun _ k12635 => ?_
        by_cases hc12636 : x_12581 = 0
        ·
         replace hR := ifT hR hc12636
         subst hc12636
         refine W.regionD FShaExact.mixed [(0, true), (1, true), (2, true), (3, true), (4, true), (5, true), (7, true), (8, true), (9, true), (10, true), (11, true), (12, true), (13, true), (6, false), (14, true), (15, true), (16, true), (17, true), (18, true), (19, true), (20, true), (21, true), (23, true), (24, true), (25, true), (26, true), (27, true), (28, true), (22, false), (29, false), (30, true), (31, true), (32, true)] (by kernel_rfl) ?_
         have h12637 := h12585.drew
         refine Plan.move_ptr rfl rfl <| Plan.move_int rfl rfl <| Plan.nilCheck rfl rfl <| Plan.fieldAddr0 FShaExact.fld49_0 rfl rfl <| Plan.idxArrO (j := 0) (o' := 0) FShaExact.arr46 rfl rfl rfl (by omega) rfl <| Plan.load0 h12637 19 rfl rfl rfl (by omega) FShaExact.sc37 <| Plan.move_ptr rfl rfl <| Plan.move_int rfl rfl ?_
         refine Plan.nilCheck rfl rfl <| Plan.fieldAddr 3 FShaExact.fld49_1 rfl rfl <| Plan.idxArrO (j := 0) (o' := 3) FShaExact.arr47 rfl rfl rfl (by omega) rfl <| Plan.load0 h12637 22 rfl rfl rfl (by omega) FShaExact.sc22 <| Plan.len FShaExact.isl22 rfl rfl ?_
         have h12638 := St.pickT (C := [_, _, _, _, _, _, _, _, _, _, _, _, _, _, _, _, _, _, _, _, _, _, _, _, _]) h12637 [7, 8, 9, 0, 1, 2, 3, 4, 5, 6, 10, 11, 12, 13, 14, 15, 16, 17, 18, 19, 20, 21, 22, 23, 24] (by decide)
         simp only [pick, zfc, zfn, zgz, zgs, zca, zna] at h12638
         obtain ⟨x_12640, hr12639, hR⟩ := hR
         refine Plan.call (vs := [.pointer (some ⟨b8148, 0, none⟩)]) rfl FShaExact.call26 rfl (sha_Hash_Len_ok  hr12639 h12638) ?_
         rintro _ w12641 ⟨rfl, h12641⟩
         refine ⟨_, rfl, .inl ⟨PIn.keep (PIn.cons 22 rfl (PIn.cons 19 rfl PIn.nil)) h12641, ?_⟩⟩
         by_cases hc12642 : x_12640 = ((m8160.length : Nat) : Int)
         ·
          replace hR := ifT hR hc12642
          refine Plan.cmpV (a := (x_12640 : Int)) (b := (((m8160.length : Nat) : Int) : Int)) (p := x_12640 = ((m8160.length : Nat) : Int)) (v := true) rfl rfl rfl rfl icmp_eq (decide_eq_true hc12642) <| Plan.move_bool rfl rfl <| Plan.move_ptr rfl rfl <| Plan.move_int rfl rfl <| Plan.nilCheck rfl rfl <| Plan.fieldAddr0 FShaExact.fld49_0 rfl rfl <| Plan.idxArrO (j := 0) (o' := 0) FShaExact.arr46 rfl rfl rfl (by omega) rfl <| Plan.load0 h12641 19 rfl rfl rfl (by omega) FShaExact.sc37 ?_
          refine Plan.move_ptr rfl rfl <| Plan.move_int rfl rfl <| Plan.nilCheck rfl rfl <| Plan.fieldAddr 3 FShaExact.fld49_1 rfl rfl <| Plan.idxArrO (j := 0) (o' := 3) FShaExact.arr47 rfl rfl rfl (by omega) rfl <| Plan.load0 h12641 22 rfl rfl rfl (by omega) FShaExact.sc22 ?_
          obtain ⟨x_12644, hr12643, hR⟩ := hR
          refine Plan.call (vs := [.pointer (some ⟨b8148, 0, none⟩)]) rfl FShaExact.call27 rfl (sha_Hash_Sum_ok (iG0 := iG0 + 22) hG0 hr12643 h12641) ?_
          rintro _ w12645 ⟨rfl, h12645⟩
          refine ⟨_, rfl, .inl ⟨PIn.keep (PIn.cons 22 rfl (PIn.cons 19 rfl (PIn.cons 22 rfl (PIn.cons 19 rfl PIn.nil)))) h12645, ?_⟩⟩
          obtain ⟨x_12647, hr12646, hR⟩ := hR
          refine Plan.call (vs := [.slice am8160 m8160.length cm8160]) rfl FShaExact.call53 rfl (letheref02_Sum_ok (iG2 := iG2 + 25) hG2 (iG3 := iG3 + 25) hG3 (by exact (hm8160.bx 16 rfl)) hr12646 h12645) ?_
          rintro _ w12648 ⟨rfl, h12648⟩
          refine ⟨_, rfl, .inl ⟨PIn.keep (PIn.cons 22 rfl (PIn.cons 19 rfl (PIn.cons 22 rfl (PIn.cons 19 rfl PIn.nil)))) h12648, ?_⟩⟩
          refine Plan.eqArrV (b := (eqB 32 x_12644 x_12647)) FShaExact.arrI32 rfl rfl rfl rfl <| Plan.pickTb rfl rfl rfl <| Plan.assign_bool rfl rfl <| Plan.nil (k12635 _ _ ?_); clear k12635
          refine W.ret (blockR_ret (thenR_ret (finR_ret ?_)))
          have h12649 := St.pickT (C := [_, _, _, _, _, _, _, _, _, _, _, _, _, _, _, _, _, _, _, _, _, _, _, _, _]) h12648 [] (by decide)
          simp only [pick, zfc, zfn, zgz, zgs, zca, zna] at h12649
          refine RetOk.mk (.tmp_bool rfl .nil) ?_
          exact ⟨(eqB 32 x_12644 x_12647), hR, rfl, h12649⟩
         ·
          replace hR := ifF hR hc12642
          refine Plan.cmpV (a := (x_12640 : Int)) (b := (((m8160.length : Nat) : Int) : Int)) (p := x_12640 = ((m8160.length : Nat) : Int)) (v := false) rfl rfl rfl rfl icmp_eq (decide_eq_false hc12642) <| Plan.move_bool rfl rfl <| Plan.passed rfl <| Plan.passed rfl <| Plan.passed rfl <| Plan.passed rfl <| Plan.passed rfl <| Plan.passed rfl ?_
          refine Plan.passed rfl <| Plan.passed rfl <| Plan.passed rfl <| Plan.passed rfl <| Plan.passed rfl <| Plan.passed rfl <| Plan.passed rfl <| Plan.passed rfl ?_
          refine Plan.passed rfl <| Plan.pickFb rfl rfl rfl <| Plan.assign_bool rfl rfl <| Plan.nil (k12635 _ _ ?_); clear k12635
          refine W.ret (blockR_ret (thenR_ret (finR_ret ?_)))
          have h12650 := St.pickT (C := [_, _, _, _, _, _, _, _, _, _, _, _, _, _, _, _, _, _, _, _, _, _, _, _, _]) h12641 [] (by decide)
          simp only [pick, zfc, zfn, zgz, zgs, zca, zna] at h12650
          refine RetOk.mk (.tmp_bool rfl .nil) ?_
          exact ⟨false, hR, rfl, h12650⟩
        ·
         replace hR := ifF hR hc12636
         by_cases hc12651 : x_12581 = 1
         ·
          replace hR := ifT hR hc12651
          subst hc12651
          refine W.regionD FShaExact.mixed [(0, true), (1, true), (2, true), (3, true), (4, true), (5, true), (7, true), (8, true), (9, true), (10, true), (11, true), (12, true), (13, true), (6, false), (14, true), (15, true), (16, true), (17, true), (18, true), (19, true), (20, true), (21, true), (23, true), (24, true), (25, true), (26, true), (27, true), (28, true), (22, false), (29, false), (30, true), (31, true), (32, true)] (by kernel_rfl) ?_
          have h12652 := h12585.drew
          refine Plan.move_ptr rfl rfl <| Plan.move_int rfl rfl <| Plan.nilCheck rfl rfl <| Plan.fieldAddr0 FShaExact.fld49_0 rfl rfl <| Plan.idxArrO (j := 1) (o' := 1) FShaExact.arr46 rfl rfl rfl (by omega) rfl <| Plan.load0 h12652 20 rfl rfl rfl (by omega) FShaExact.sc37 <| Plan.move_ptr rfl rfl <| Plan.move_int rfl rfl ?_
          refine Plan.nilCheck rfl rfl <| Plan.fieldAddr 3 FShaExact.fld49_1 rfl rfl <| Plan.idxArrO (j := 1) (o' := 4) FShaExact.arr47 rfl rfl rfl (by omega) rfl <| Plan.load0 h12652 23 rfl rfl rfl (by omega) FShaExact.sc22 <| Plan.len FShaExact.isl22 rfl rfl ?_
          have h12653 := St.pickT (C := [_, _, _, _, _, _, _, _, _, _, _, _, _, _, _, _, _, _, _, _, _, _, _, _, _]) h12652 [10, 11, 12, 0, 1, 2, 3, 4, 5, 6, 7, 8, 9, 13, 14, 15, 16, 17, 18, 19, 20, 21, 22, 23, 24] (by decide)
          simp only [pick, zfc, zfn, zgz, zgs, zca, zna] at h12653
          obtain ⟨x_12655, hr12654, hR⟩ := hR
          refine Plan.call (vs := [.pointer (some ⟨b8152, 0, none⟩)]) rfl FShaExact.call26 rfl (sha_Hash_Len_ok  hr12654 h12653) ?_
          rintro _ w12656 ⟨rfl, h12656⟩
          refine ⟨_, rfl, .inl ⟨PIn.keep (PIn.cons 23 rfl (PIn.cons 20 rfl PIn.nil)) h12656, ?_⟩⟩
          by_cases hc12657 : x_12655 = ((m8161.length : Nat) : Int)
          ·
           replace hR := ifT hR hc12657
           refine Plan.cmpV (a := (x_12655 : Int)) (b := (((m8161.length : Nat) : Int) : Int)) (p := x_12655 = ((m8161.length : Nat) : Int)) (v := true) rfl rfl rfl rfl icmp_eq (decide_eq_true hc12657) <| Plan.move_bool rfl rfl <| Plan.move_ptr rfl rfl <| Plan.move_int rfl rfl <| Plan.nilCheck rfl rfl <| Plan.fieldAddr0 FShaExact.fld49_0 rfl rfl <| Plan.idxArrO (j := 1) (o' := 1) FShaExact.arr46 rfl rfl rfl (by omega) rfl <| Plan.load0 h12656 20 rfl rfl rfl (by omega) FShaExact.sc37 ?_
           refine Plan.move_ptr rfl rfl <| Plan.move_int rfl rfl <| Plan.nilCheck rfl rfl <| Plan.fieldAddr 3 FShaExact.fld49_1 rfl rfl <| Plan.idxArrO (j := 1) (o' := 4) FShaExact.arr47 rfl rfl rfl (by omega) rfl <| Plan.load0 h12656 23 rfl rfl rfl (by omega) FShaExact.sc22 ?_
           obtain ⟨x_12659, hr12658, hR⟩ := hR
           refine Plan.call (vs := [.pointer (some ⟨b8152, 0, none⟩)]) rfl FShaExact.call27 rfl (sha_Hash_Sum_ok (iG0 := iG0 + 22) hG0 hr12658 h12656) ?_
           rintro _ w12660 ⟨rfl, h12660⟩
           refine ⟨_, rfl, .inl ⟨PIn.keep (PIn.cons 23 rfl (PIn.cons 20 rfl (PIn.cons 23 rfl (PIn.cons 20 rfl PIn.nil)))) h12660, ?_⟩⟩
           obtain ⟨x_12662, hr12661, hR⟩ := hR
           refine Plan.call (vs := [.slice am8161 m8161.length cm8161]) rfl FShaExact.call53 rfl (letheref02_Sum_ok (iG2 := iG2 + 25) hG2 (iG3 := iG3 + 25) hG3 (by exact (hm8161.bx 17 rfl)) hr12661 h12660) ?_
           rintro _ w12663 ⟨rfl, h12663⟩
           refine ⟨_, rfl, .inl ⟨PIn.keep (PIn.cons 23 rfl (PIn.cons 20 rfl (PIn.cons 23 rfl (PIn.cons 20 rfl PIn.nil)))) h12663, ?_⟩⟩
           refine Plan.eqArrV (b := (eqB 32 x_12659 x_12662)) FShaExact.arrI32 rfl rfl rfl rfl <| Plan.pickTb rfl rfl rfl <| Plan.assign_bool rfl rfl <| Plan.nil (k12635 _ _ ?_); clear k12635
           refine W.ret (blockR_ret (thenR_ret (finR_ret ?_)))
           have h12664 := St.pickT (C := [_, _, _, _, _, _, _, _, _, _, _, _, _, _, _, _, _, _, _, _, _, _, _, _, _]) h12663 [] (by decide)
           simp only [pick, zfc, zfn, zgz, zgs, zca, zna] at h12664
           refine RetOk.mk (.tmp_bool rfl .nil) ?_
           exact ⟨(eqB 32 x_12659 x_12662), hR, rfl, h12664⟩
          ·
           replace hR := ifF hR hc12657
           refine Plan.cmpV (a := (x_12655 : Int)) (b := (((m8161.length : Nat) : Int) : Int)) (p := x_12655 = ((m8161.length : Nat) : Int)) (v := false) rfl rfl rfl rfl icmp_eq (decide_eq_false hc12657) <| Plan.move_bool rfl rfl <| Plan.passed rfl <| Plan.passed rfl <| Plan.passed rfl <| Plan.passed rfl <| Plan.passed rfl <| Plan.passed rfl ?_
           refine Plan.passed rfl <| Plan.passed rfl <| Plan.passed rfl <| Plan.passed rfl <| Plan.passed rfl <| Plan.passed rfl <| Plan.passed rfl <| Plan.passed rfl ?_
           refine Plan.passed rfl <| Plan.pickFb rfl rfl rfl <| Plan.assign_bool rfl rfl <| Plan.nil (k12635 _ _ ?_); clear k12635
           refine W.ret (blockR_ret (thenR_ret (finR_ret ?_)))
           have h12665 := St.pickT (C := [_, _, _, _, _, _, _, _, _, _, _, _, _, _, _, _, _, _, _, _, _, _, _, _, _]) h12656 [] (by decide)
           simp only [pick, zfc, zfn, zgz, zgs, zca, zna] at h12665
           refine RetOk.mk (.tmp_bool rfl .nil) ?_
           exact ⟨false, hR, rfl, h12665⟩
         ·
          replace hR := ifF hR hc12651
          obtain ⟨hc12666, hR⟩ := hR
          subst hc12666
          refine W.regionD FShaExact.mixed [(0, true), (1, true), (2, true), (3, true), (4, true), (5, true), (7, true), (8, true), (9, true), (10, true), (11, true), (12, true), (13, true), (6, false), (14, true), (15, true), (16, true), (17, true), (18, true), (19, true), (20, true), (21, true), (23, true), (24, true), (25, true), (26, true), (27, true), (28, true), (22, false), (29, false), (30, true), (31, true), (32, true)] (by kernel_rfl) ?_
          have h12667 := h12585.drew
          refine Plan.move_ptr rfl rfl <| Plan.move_int rfl rfl <| Plan.nilCheck rfl rfl <| Plan.fieldAddr0 FShaExact.fld49_0 rfl rfl <| Plan.idxArrO (j := 2) (o' := 2) FShaExact.arr46 rfl rfl rfl (by omega) rfl <| Plan.load0 h12667 21 rfl rfl rfl (by omega) FShaExact.sc37 <| Plan.move_ptr rfl rfl <| Plan.move_int rfl rfl ?_
          refine Plan.nilCheck rfl rfl <| Plan.fieldAddr 3 FShaExact.fld49_1 rfl rfl <| Plan.idxArrO (j := 2) (o' := 5) FShaExact.arr47 rfl rfl rfl (by omega) rfl <| Plan.load0 h12667 24 rfl rfl rfl (by omega) FShaExact.sc22 <| Plan.len FShaExact.isl22 rfl rfl ?_
          have h12668 := St.pickT (C := [_, _, _, _, _, _, _, _, _, _, _, _, _, _, _, _, _, _, _, _, _, _, _, _, _]) h12667 [13, 14, 15, 0, 1, 2, 3, 4, 5, 6, 7, 8, 9, 10, 11, 12, 16, 17, 18, 19, 20, 21, 22, 23, 24] (by decide)
          simp only [pick, zfc, zfn, zgz, zgs, zca, zna] at h12668
          obtain ⟨x_12670, hr12669, hR⟩ := hR
          refine Plan.call (vs := [.pointer (some ⟨b8156, 0, none⟩)]) rfl FShaExact.call26 rfl (sha_Hash_Len_ok  hr12669 h12668) ?_
          rintro _ w12671 ⟨rfl, h12671⟩
          refine ⟨_, rfl, .inl ⟨PIn.keep (PIn.cons 24 rfl (PIn.cons 21 rfl PIn.nil)) h12671, ?_⟩⟩
          by_cases hc12672 : x_12670 = ((m8162.length : Nat) : Int)
          ·
           replace hR := ifT hR hc12672
           refine Plan.cmpV (a := (x_12670 : Int)) (b := (((m8162.length : Nat) : Int) : Int)) (p := x_12670 = ((m8162.length : Nat) : Int)) (v := true) rfl rfl rfl rfl icmp_eq (decide_eq_true hc12672) <| Plan.move_bool rfl rfl <| Plan.move_ptr rfl rfl <| Plan.move_int rfl rfl <| Plan.nilCheck rfl rfl <| Plan.fieldAddr0 FShaExact.fld49_0 rfl rfl <| Plan.idxArrO (j := 2) (o' := 2) FShaExact.arr46 rfl rfl rfl (by omega) rfl <| Plan.load0 h12671 21 rfl rfl rfl (by omega) FShaExact.sc37 ?_
           refine Plan.move_ptr rfl rfl <| Plan.move_int rfl rfl <| Plan.nilCheck rfl rfl <| Plan.fieldAddr 3 FShaExact.fld49_1 rfl rfl <| Plan.idxArrO (j := 2) (o' := 5) FShaExact.arr47 rfl rfl rfl (by omega) rfl <| Plan.load0 h12671 24 rfl rfl rfl (by omega) FShaExact.sc22 ?_
           obtain ⟨x_12674, hr12673, hR⟩ := hR
           refine Plan.call (vs := [.pointer (some ⟨b8156, 0, none⟩)]) rfl FShaExact.call27 rfl (sha_Hash_Sum_ok (iG0 := iG0 + 22) hG0 hr12673 h12671) ?_
           rintro _ w12675 ⟨rfl, h12675⟩
           refine ⟨_, rfl, .inl ⟨PIn.keep (PIn.cons 24 rfl (PIn.cons 21 rfl (PIn.cons 24 rfl (PIn.cons 21 rfl PIn.nil)))) h12675, ?_⟩⟩
           obtain ⟨x_12677, hr12676, hR⟩ := hR
           refine Plan.call (vs := [.slice am8162 m8162.length cm8162]) rfl FShaExact.call53 rfl (letheref02_Sum_ok (iG2 := iG2 + 25) hG2 (iG3 := iG3 + 25) hG3 (by exact (hm8162.bx 18 rfl)) hr12676 h12675) ?_
           rintro _ w12678 ⟨rfl, h12678⟩
           refine ⟨_, rfl, .inl ⟨PIn.keep (PIn.cons 24 rfl (PIn.cons 21 rfl (PIn.cons 24 rfl (PIn.cons 21 rfl PIn.nil)))) h12678, ?_⟩⟩
           refine Plan.eqArrV (b := (eqB 32 x_12674 x_12677)) FShaExact.arrI32 rfl rfl rfl rfl <| Plan.pickTb rfl rfl rfl <| Plan.assign_bool rfl rfl <| Plan.nil (k12635 _ _ ?_); clear k12635
           refine W.ret (blockR_ret (thenR_ret (finR_ret ?_)))
           have h12679 := St.pickT (C := [_, _, _, _, _, _, _, _, _, _, _, _, _, _, _, _, _, _, _, _, _, _, _, _, _]) h12678 [] (by decide)
           simp only [pick, zfc, zfn, zgz, zgs, zca, zna] at h12679
           refine RetOk.mk (.tmp_bool rfl .nil) ?_
           exact ⟨(eqB 32 x_12674 x_12677), hR, rfl, h12679⟩
          ·
           replace hR := ifF hR hc12672
           refine Plan.cmpV (a := (x_12670 : Int)) (b := (((m8162.length : Nat) : Int) : Int)) (p := x_12670 = ((m8162.length : Nat) : Int)) (v := false) rfl rfl rfl rfl icmp_eq (decide_eq_false hc12672) <| Plan.move_bool rfl rfl <| Plan.passed rfl <| Plan.passed rfl <| Plan.passed rfl <| Plan.passed rfl <| Plan.passed rfl <| Plan.passed rfl ?_
           refine Plan.passed rfl <| Plan.passed rfl <| Plan.passed rfl <| Plan.passed rfl <| Plan.passed rfl <| Plan.passed rfl <| Plan.passed rfl <| Plan.passed rfl ?_
           refine Plan.passed rfl <| Plan.pickFb rfl rfl rfl <| Plan.assign_bool rfl rfl <| Plan.nil (k12635 _ _ ?_); clear k12635
           refine W.ret (blockR_ret (thenR_ret (finR_ret ?_)))
           have h12680 := St.pickT (C := [_, _, _, _, _, _, _, _, _, _, _, _, _, _, _, _, _, _, _, _, _, _, _, _, _]) h12671 [] (by decide)
           simp only [pick, zfc, zfn, zgz, zgs, zca, zna] at h12680
           refine RetOk.mk (.tmp_bool rfl .nil) ?_
           exact ⟨false, hR, rfl, h12680⟩
       ·
        rintro _ w12681 ⟨y_script12574, hy12681_0, rfl, h12681⟩
        subst hy12681_0
        replace hR := hR012575
        refine ⟨_, rfl, .inl ⟨PIn.keep PIn.nil h12681, ?_⟩⟩
        refine Plan.pickTb rfl rfl rfl <| Plan.assign_bool rfl rfl <| Plan.nil (k12058 _ _ ?_); clear k12058
        refine W.ret (finR_ret ?_)
        subst r
        refine RetOk.mk (.tmp_bool rfl .nil) ?_
        exact ⟨rfl, h12681⟩
      ·
       replace hR := ifF hR hc12474
       obtain rfl : script12366 = false := Bool.eq_false_iff.2 hc12474
       refine Plan.pickTb rfl rfl rfl <| Plan.move_bool rfl rfl <| Plan.passed rfl <| Plan.passed rfl <| Plan.passed rfl <| Plan.pickFb rfl rfl rfl <| Plan.assign_bool rfl rfl <| Plan.nil (k12058 _ _ ?_); clear k12058
       refine W.ret (finR_ret ?_)
       have h12682 := St.pickT (C := [_, _, _, _, _, _, _, _, _, _, _, _, _, _, _, _, _, _]) h12473 [] (by decide)
       simp only [pick, zfc, zfn, zgz, zgs, zca, zna] at h12682
       subst r
       refine RetOk.mk (.tmp_bool rfl .nil) ?_
       exact ⟨rfl, h12682⟩
    ·
     replace hR := ifF hR hc12266
     obtain rfl : script12158 = false := Bool.eq_false_iff.2 hc12266
     refine Plan.move_bool rfl rfl <| Plan.passed rfl <| Plan.passed rfl <| Plan.passed rfl <| Plan.pickFb rfl rfl rfl <| Plan.move_bool rfl rfl <| Plan.passed rfl <| Plan.passed rfl ?_
     refine Plan.passed rfl <| Plan.pickFb rfl rfl rfl <| Plan.assign_bool rfl rfl <| Plan.nil (k12058 _ _ ?_); clear k12058
     refine W.ret (finR_ret ?_)
     have h12683 := St.pickT (C := [_, _, _, _, _, _, _, _, _, _, _, _, _, _, _, _, _, _]) h12265 [] (by decide)
     simp only [pick, zfc, zfn, zgz, zgs, zca, zna] at h12683
     subst r
     refine RetOk.mk (.tmp_bool rfl .nil) ?_
     exact ⟨rfl, h12683⟩
 ·
  replace hR := ifF hR hc8
  refine W.condT (congrArg Value.bool (congrArg Bool.not (Bool.eq_false_iff.2 hc8))) ?_
  refine W.seq_k fun _ k12684 => W.regionT [(0, true)] (by kernel_rfl) ?_
  refine Plan.assign_bool rfl rfl <| Plan.nil (k12684 _ _ ?_); clear k12684
  refine W.ret (thenR_ret (finR_ret ?_))
  subst r
  refine RetOk.mk (.tmp_bool rfl .nil) ?_
  exact ⟨rfl, h7⟩
end Go.Proofs.YtjdgbahjpdopbaaDoor
