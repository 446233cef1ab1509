/-
 WALKS of the package's functions, printed by this session's own program (auto.py).
-/
import Derived.Test.YtjclppnbbpnfnaaDoorProg
import Derived.Test.YtjclppnbbpnfnaaDoorEb
import Derived.Test.YtjclppnbbpnfnaaDoorRAgree
import Derived.Test.YtjclppnbbpnfnaaDoorEls
import Derived.Test.YtjclppnbbpnfnaaDoorWBytes
import Derived.Test.YtjclppnbbpnfnaaDoorWCurve
import Derived.Test.YtjclppnbbpnfnaaDoorWKdf
namespace Go.Proofs.YtjclppnbbpnfnaaDoor
set_option linter.unusedSimpArgs false
set_option linter.unusedVariables false
set_option linter.unusedSectionVars false
set_option maxRecDepth 8000
set_option maxHeartbeats 1000000
open Go Go.LW
theorem FAgree.mixed : Tryd.prog.follows .mixedOrders = true := by kernel_rfl
theorem FAgree.agg23 : aggT Tryd.prog 23 32 = true := by kernel_rfl
theorem FAgree.z23 : zeroIs Tryd.prog 23 [(32, fun _ => VU .u8 0#8)] := zeroIs_agg (by kernel_rfl)
theorem FAgree.arr23 : arrB Tryd.prog 23 32 1 = true := by kernel_rfl
theorem FAgree.sz5 : szT Tryd.prog 5 1 = true := by kernel_rfl
theorem FAgree.sz23 : szT Tryd.prog 23 32 = true := by kernel_rfl
theorem FAgree.u5 : Tryd.prog.underlying 5 = some (.int .u8) := by kernel_rfl
theorem FAgree.fld25_1 : fieldB Tryd.prog 25 1 32 = true := by kernel_rfl
theorem FAgree.z30 : zeroIs Tryd.prog 30 [(16, fun _ => VU .u8 0#8)] := zeroIs_agg (by kernel_rfl)
theorem FAgree.z31 : zeroIs Tryd.prog 31 [(64, fun _ => VU .u8 0#8)] := zeroIs_agg (by kernel_rfl)
theorem FAgree.z33 : zeroIs Tryd.prog 33 [(32, fun _ => VU .u8 0#8), (32, fun _ => VU .u8 0#8), (1, fun _ => VU .u32 0#32)] := zeroIs_agg (by kernel_rfl)
theorem FAgree.fld28_1 : fieldB Tryd.prog 28 1 32 = true := by kernel_rfl
theorem FAgree.sc26 : scalarT Tryd.prog 26 = true := by kernel_rfl
theorem FAgree.fld25_0 : fieldB Tryd.prog 25 0 0 = true := by kernel_rfl
theorem FAgree.fld28_2 : fieldB Tryd.prog 28 2 33 = true := by kernel_rfl
theorem FAgree.pl66 : placesB Tryd.prog 66 [(0, 32), (32, 32)] = true := by kernel_rfl
theorem FAgree.z66 : zeroIs Tryd.prog 66 [(32, fun _ => VU .u8 0#8), (32, fun _ => VU .u8 0#8)] := zeroIs_agg (by kernel_rfl)
theorem FAgree.fld28_0 : fieldB Tryd.prog 28 0 0 = true := by kernel_rfl
theorem FAgree.zv66 : (Tryd.prog.info? 66).bind (·.zero) = some (AG [(32, fun _ => VU .u8 0#8), (32, fun _ => VU .u8 0#8)]) := by kernel_rfl
theorem FAgree.slu88 : Tryd.prog.underlying 88 = some (.slice 66) := by kernel_rfl
theorem FAgree.sz66 : szT Tryd.prog 66 64 = true := by kernel_rfl
theorem FAgree.zv5 : (Tryd.prog.info? 5).bind (·.zero) = some (VU .u8 0#8) := by kernel_rfl
theorem FAgree.slu40 : Tryd.prog.underlying 40 = some (.slice 5) := by kernel_rfl
theorem FAgree.sl40 : slB Tryd.prog 40 1 = true := by kernel_rfl
theorem FAgree.call35 : callB Tryd.prog 35 = true := by kernel_rfl
theorem FAgree.isl88 : ∃ el, Tryd.prog.underlying 88 = some (.slice el) := ⟨66, by kernel_rfl⟩
theorem FAgree.sl88 : slB Tryd.prog 88 64 = true := by kernel_rfl
theorem FAgree.agg66 : aggT Tryd.prog 66 64 = true := by kernel_rfl
theorem FAgree.fld66_0 : fieldB Tryd.prog 66 0 0 = true := by kernel_rfl
theorem FAgree.fld66_1 : fieldB Tryd.prog 66 1 32 = true := by kernel_rfl
theorem FAgree.row23 : rowB Tryd.prog 23 = true := by kernel_rfl
theorem FAgree.call8 : callB Tryd.prog 8 = true := by kernel_rfl
theorem FAgree.row30 : rowB Tryd.prog 30 = true := by kernel_rfl
theorem FAgree.sz30 : szT Tryd.prog 30 16 = true := by kernel_rfl
theorem FAgree.el40 : elD Tryd.prog 40 = some (1, 1, some (VU .u8 0#8)) := by kernel_rfl
theorem FAgree.arr31 : arrB Tryd.prog 31 64 1 = true := by kernel_rfl
theorem FAgree.agg31 : aggT Tryd.prog 31 64 = true := by kernel_rfl
theorem FAgree.call9 : callB Tryd.prog 9 = true := by kernel_rfl
theorem FAgree.arr30 : arrB Tryd.prog 30 16 1 = true := by kernel_rfl
theorem FAgree.agg30 : aggT Tryd.prog 30 16 = true := by kernel_rfl
theorem FAgree.call23 : callB Tryd.prog 23 = true := by kernel_rfl
theorem FAgree.pl33 : placesB Tryd.prog 33 [(0, 32), (32, 32), (64, 1)] = true := by kernel_rfl
theorem FAgree.call24 : callB Tryd.prog 24 = true := by kernel_rfl
theorem FAgree.sz31 : szT Tryd.prog 31 64 = true := by kernel_rfl
theorem FAgree.sz33 : szT Tryd.prog 33 65 = true := by kernel_rfl
theorem FAgree.agg33 : aggT Tryd.prog 33 65 = true := by kernel_rfl
theorem FAgree.fld33_2 : fieldB Tryd.prog 33 2 64 = true := by kernel_rfl
theorem FAgree.fld33_0 : fieldB Tryd.prog 33 0 0 = true := by kernel_rfl
theorem FAgree.fld33_1 : fieldB Tryd.prog 33 1 32 = true := by kernel_rfl
theorem agree_made_ok {B : Nat} {w0 w : World} {L : List Rg} {iG0 : Nat} (hG0 : L[iG0]? = some ⟨some 0, 0, 5, fun q => VU .u64 (twice5 q), false⟩) {iG1 : Nat} (hG1 : L[iG1]? = some ⟨some 1, 0, 8, fun q => VU .u32 (H256 q), false⟩) {iG3 : Nat} (hG3 : L[iG3]? = some ⟨some 3, 0, 64, fun q => VU .u32 (K256 q), false⟩) {three1 : List ((Nat → BitVec 8) × (Nat → BitVec 8))} {athree1 : Option Addr} {nthree1 cthree1 ithree1 : Nat} (hthree1 : LV D66 L ithree1 athree1 nthree1 cthree1 three1) {r : ((Nat → BitVec 8) × (Nat → BitVec 8) × Nat)} (hR : agree_made three1 r) (HST : St B w0 (L) w) :
  Calls Tryd.prog 23 #[.slice athree1 nthree1 cthree1] w fun e w' => e = .returned (.tuple #[AG [(32, fun q => VU .u8 (r.1 q))], AG [(16, fun q => VU .u8 (r.2.1 q))], VN r.2.2]) ∧ St B w0 (L) w' := by
 refine W.enter 53 Tryd.func23 rfl rfl rfl ?_
 unfold agree_made at hR
 have ethree1 := hthree1.hl; subst ethree1
 refine W.seq_k fun _ k2 => W.regionT [(0, false), (1, false), (2, true)] (by kernel_rfl) ?_
 refine Plan.alloc HST rfl FAgree.z23 PIn.nil fun b3 w3 hb3 h3 => ?_
 simp only [rngs, Nat.zero_add, Nat.reduceAdd, zca, zna] at h3
 refine Plan.alloc h3 rfl FAgree.z30 PIn.nil fun b4 w4 hb4 h4 => ?_
 simp only [rngs, Nat.zero_add, Nat.reduceAdd, zca, zna] at h4
 refine Plan.assign_int rfl rfl <| Plan.nil (k2 _ _ ?_); clear k2
 refine W.seq_k fun _ k5 => W.regionT [(0, false), (1, false), (2, true)] (by kernel_rfl) ?_
 refine Plan.buildSlice h4 (ps := [(1, fun q => VU .u8 (lit ([255#8] : List Byte) q))]) FAgree.slu40 FAgree.sz5 FAgree.zv5 (by decide) (by decide) rfl rfl (by kernel_rfl) (EffO.keep PIn.nil) fun b6 w6 hb6 h6 => ?_
 simp only [rngs, List.cons_append, List.nil_append] at h6
 have ho6 : Ow (some ⟨b6, 0, none⟩) (some b6) ([255#8] : List Byte).length 1 (lit ([255#8] : List Byte)) ([255#8] : List Byte) := ⟨.inr ⟨b6, rfl, rfl⟩, Nat.le_refl _, rfl, fun q _ => rfl⟩
 obtain ⟨x_8, hr7, hR⟩ := hR
 refine Plan.call (vs := [.slice (some ⟨b6, 0, none⟩) (([255#8] : List Byte).length) 1, VN 32]) rfl FAgree.call35 rfl (bytes_Repeat_ok (by exact (ho6.bx 0 rfl)) hr7 h6) ?_
 rintro _ w14 ⟨ay0_9, py0_10, ny0_11, cy0_12, Fy0_13, rfl, h14, hf14_0⟩
 obtain rfl := hf14_0.hl
 refine ⟨_, rfl, .inl ⟨PIn.keep PIn.nil h14, ?_⟩⟩
 refine Plan.assign_slice rfl rfl <| Plan.nil (k5 _ _ ?_); clear k5
 refine W.seq_k fun _ k15 => W.seq_k fun _ k16 => ?_
 refine W.regionT [(0, true), (1, true), (2, true)] (by kernel_rfl) ?_
 refine Plan.move_slice rfl rfl <| Plan.len FAgree.isl88 rfl rfl <| Plan.move_int rfl rfl <| Plan.nil (k16 _ _ ?_); clear k16
 obtain ⟨x72, hI72, hR072⟩ := hR
 refine W.cutN (fun e w => ∃ y_key71 : List Byte, x72 = some y_key71 ∧ ∃ akey71 : Option Addr, ∃ pkey71 : Option Nat, ∃ ckey71 : Nat, ∃ Fkey71 : Nat → Byte, EnvHas e [(2, .pointer (some ⟨b3, 0, none⟩)), (3, .pointer (some ⟨b4, 0, none⟩)), (5, .slice akey71 y_key71.length ckey71)] ∧ St B w0 (⟨pkey71, 0, ckey71, fun q => VU .u8 (Fkey71 q), true⟩ :: ⟨some b4, 0, 16, fun q => VU .u8 ((fun _ => 0#8) q), true⟩ :: ⟨some b3, 0, 32, fun q => VU .u8 ((fun _ => 0#8) q), true⟩ :: L) w ∧ Ow akey71 pkey71 y_key71.length ckey71 Fkey71 y_key71) ?_ ?_
 ·
  refine W.block ?_
  have h73 := St.pickT (C := [_, _, _, _]) h14 [0, 2, 3] (by decide)
  simp only [pick, zfc, zfn, zgz, zgs, zca, zna] at h73
  refine W.iter hI72 (fun (s72 : ((List Byte) × Nat)) e w => ∃ akey69 : Option Addr, ∃ pkey69 : Option Nat, ∃ ckey69 : Nat, ∃ Fkey69 : Nat → Byte, EnvHas e [(2, .pointer (some ⟨b3, 0, none⟩)), (3, .pointer (some ⟨b4, 0, none⟩)), (5, .slice akey69 s72.1.length ckey69), (13, .slice athree1 three1.length cthree1), (14, VN three1.length), (15, VN s72.2)] ∧ St B w0 (⟨pkey69, 0, ckey69, fun q => VU .u8 (Fkey69 q), true⟩ :: ⟨some b4, 0, 16, fun q => VU .u8 ((fun _ => 0#8) q), true⟩ :: ⟨some b3, 0, 32, fun q => VU .u8 ((fun _ => 0#8) q), true⟩ :: L) w ∧ Ow akey69 pkey69 s72.1.length ckey69 Fkey69 s72.1) ⟨ay0_9, py0_10, cy0_12, Fy0_13, (zer (zer (zer (zer (zer (zer zen)))))), h73, hf14_0⟩ ?_
  rintro ⟨key69, t70⟩ o72 hR hx72 ev74 wl74 ⟨akey69, pkey69, ckey69, Fkey69, he74, h74, hkey69⟩
  obtain ⟨ev74, rfl⟩ := he74.open
  unfold agree_made_l0 at hR
  refine W.seq_k fun _ k75 => W.regionT [(0, true)] (by kernel_rfl) ?_
  refine Plan.cmpP (a := (((t70 : Nat) : Int) : Int)) (b := (((three1.length : Nat) : Int) : Int)) (p := t70 < three1.length) rfl rfl rfl rfl icmp_ltN <| Plan.nil (k75 _ _ ?_); clear k75
  refine W.seq_k fun _ k76 => ?_
  by_cases hc77 : t70 < three1.length
  ·
   replace hR := ifT hR hc77
   refine W.condT (congrArg Value.bool (decide_eq_true hc77)) ?_
   refine W.skip ?_
   refine k76 _ _ ?_; clear k76
   refine W.seq_k fun _ k78 => ?_
   refine W.block ?_
   refine W.seq_k fun _ k79 => W.regionT [(0, true), (1, true), (2, false), (3, false)] (by kernel_rfl) ?_
   obtain ⟨hc80, hR⟩ := hR
   refine Plan.idxLVS (D := D66) (j := t70) h74 (hthree1.app [_, _, _]) FAgree.sl88 rfl rfl rfl hc80 ?_
   refine Plan.loadLV (D := D66) (X := three1) (j := t70) (sz := 64) h74 ((fun _ => 0#8), (fun _ => 0#8)) (hthree1.app [_, _, _]) rfl rfl hc80 rfl FAgree.agg66 fun b81 r81 hs81 hr81 => ?_
   refine Plan.alloc h74 rfl FAgree.z66 (PIn.cons (ithree1 + 3) hr81 PIn.nil) fun b82 w82 hb82 h82 => ?_
   simp only [rngs, Nat.zero_add, Nat.reduceAdd, zca, zna] at h82
   refine Plan.storeP (ps := [(32, fun q => VU .u8 (((three1.getD t70 ((fun _ => 0#8), (fun _ => 0#8))).1) q)), (32, fun q => VU .u8 (((three1.getD t70 ((fun _ => 0#8), (fun _ => 0#8))).2) q))]) h82 rfl rfl rfl (.cons 0 rfl (.cons 1 rfl .nil)) ⟨fun _ _ => rfl, fun _ _ => rfl, trivial⟩ FAgree.sz66 (EffO.wait rfl) fun w83 h83 => ?_
   simp only [zca, zna, zsz, zss] at h83
   refine Plan.nil (k79 _ _ ?_); clear k79
   refine W.seq_k fun _ k84 => W.regionT [(0, true), (1, true), (2, true), (3, true), (4, false), (5, true), (6, true), (7, true), (8, false), (9, false), (10, true)] (by kernel_rfl) ?_
   refine Plan.fieldAddr0 FAgree.fld66_0 rfl rfl <| Plan.loadA1 h83 0 rfl rfl rfl FAgree.agg23 <| Plan.fieldAddr 32 FAgree.fld66_1 rfl rfl <| Plan.loadA1 h83 1 rfl rfl rfl FAgree.agg23 ?_
   obtain ⟨x_86, x_87, hr85, hR⟩ := hR
   refine Plan.call (vs := [AG [(32, fun q => VU .u8 (((three1.getD t70 ((fun _ => 0#8), (fun _ => 0#8))).1) q))], AG [(32, fun q => VU .u8 (((three1.getD t70 ((fun _ => 0#8), (fun _ => 0#8))).2) q))]]) rfl FAgree.call8 rfl (curve_Shared_ok (iG0 := iG0 + 5) hG0 hr85 h83) ?_
   rintro _ w88 ⟨rfl, h88⟩
   refine ⟨_, rfl, .inr ⟨rfl, ?_⟩⟩
   refine Plan.move_tuple rfl rfl <| Plan.extract_agg rfl rfl rfl <| Plan.extract_int rfl rfl rfl ?_
   refine Plan.alloc h88 rfl FAgree.z23 PIn.nil fun b89 w89 hb89 h89 => ?_
   simp only [rngs, Nat.zero_add, Nat.reduceAdd, zca, zna] at h89
   refine Plan.storeA (f' := fun q => VU .u8 (x_86 q)) h89 0 rfl rfl rfl rfl (fun _ _ => rfl) FAgree.sz23 rfl fun w90 h90 => ?_
   simp only [zca, zna, zsz, zss] at h90
   refine Plan.assign_int rfl rfl <| Plan.nil (k84 _ _ ?_); clear k84
   refine W.seq_k fun _ k91 => W.seq_k fun _ k92 => ?_
   refine W.regionT [(0, true), (1, true)] (by kernel_rfl) ?_
   refine Plan.move_int rfl rfl <| Plan.cmpP (a := (((x_87 : Nat) : Int) : Int)) (b := (0 : Int)) (p := x_87 ≠ 0) rfl rfl rfl rfl icmp_neN <| Plan.nil (k92 _ _ ?_); clear k92
   by_cases hc93 : x_87 ≠ 0
   ·
    replace hR := ifT hR hc93
    refine W.condT (congrArg Value.bool (decide_eq_true hc93)) ?_
    refine W.seq_k fun _ k94 => W.regionT [(0, true), (1, true), (2, true), (3, false), (4, false), (5, true)] (by kernel_rfl) ?_
    refine Plan.buildZ FAgree.row23 FAgree.z23 rfl <| Plan.buildZ FAgree.row30 FAgree.z30 rfl <| Plan.move_int rfl rfl ?_
    refine Plan.storeA (f' := fun q => VU .u8 ((fun _ => 0#8) q)) h90 5 rfl rfl rfl rfl (fun _ _ => rfl) FAgree.sz23 rfl fun w95 h95 => ?_
    simp only [zca, zna, zsz, zss] at h95
    refine Plan.storeA (f' := fun q => VU .u8 ((fun _ => 0#8) q)) h95 4 rfl rfl rfl rfl (fun _ _ => rfl) FAgree.sz30 rfl fun w96 h96 => ?_
    simp only [zca, zna, zsz, zss] at h96
    refine Plan.assign_int rfl rfl <| Plan.nil (k94 _ _ ?_); clear k94
    refine W.ret (thenR_ret (blockR_ret (thenR_ret (iterR_ret (blockR_ret (thenR_ret (thenR_ret (finR_ret ?_))))))))
    have h97 := St.pickT (C := [_, _, _, _, _, _]) h96 [] (by decide)
    simp only [pick, zfc, zfn, zgz, zgs, zca, zna] at h97
    replace hR := hR.2
    subst r
    refine RetOk.mk (.agg h96 rfl (.cons 5 rfl .nil) FAgree.agg23 (.agg h96 rfl (.cons 4 rfl .nil) FAgree.agg30 (.tmp_int rfl .nil))) ?_
    exact ⟨rfl, h97⟩
   ·
    replace hR := ifF hR hc93
    refine W.condF (congrArg Value.bool (decide_eq_false hc93)) ?_
    refine W.skip ?_
    refine k91 _ _ ?_; clear k91
    refine W.regionT [(0, true), (1, true), (2, false), (3, true)] (by kernel_rfl) ?_
    refine Plan.move_slice rfl rfl <| Plan.slArrO (lo := 0) (hi := 32) (m := 32) (c := 32) (o' := 0) FAgree.arr23 rfl rfl rfl rfl (by omega) (by omega) (by omega) (by omega) ?_
    obtain ⟨hc99, hR⟩ := hR
    refine Plan.appendO (X := key69) (Y := (dl 32 x_86)) h90 3 hkey69 FAgree.el40 FAgree.sl40 rfl rfl rfl rfl (Bx.arr0 (n := 32) (cc := 32) 0 rfl (by omega) (by omega)) hc99 (fun _ => EffO.keep PIn.nil) fun a98 pb98 cap98 F98 w98 ho98 h98 => ?_
    simp only [zca, zna, zsz, zss] at h98
    refine Plan.assign_slice rfl rfl <| Plan.nil ?_
    refine blockR_norm ?_
    refine k78 _ _ ?_; clear k78
    refine W.regionT [(0, true), (1, true)] (by kernel_rfl) ?_
    obtain ⟨hc100, hR⟩ := hR
    refine Plan.addN (a := t70) (b := 1) rfl rfl rfl (by omega) <| Plan.move_int rfl rfl <| Plan.nil ?_
    have h101 := St.pickT (C := [_, _, _, _, _, _]) h98 [3, 4, 5] (by decide)
    simp only [pick, zfc, zfn, zgz, zgs, zca, zna] at h101
    exact iterR_norm ⟨_, hR, a98, pb98, cap98, F98, (zer (zer (zer (zer (zer (zer zen)))))), h101, ho98⟩
  ·
   replace hR := ifF hR hc77
   refine W.condF (congrArg Value.bool (decide_eq_false hc77)) ?_
   refine W.exit (thenR_exit (iterR_exit (blockR_here ?_)))
   exact ⟨key69, (hx72 _ hR).symm, akey69, pkey69, ckey69, Fkey69, (zer (zer (zer zen))), h74, hkey69⟩
 ·
  rintro ev102 wl102 ⟨y_key71, hy102, akey71, pkey71, ckey71, Fkey71, he102, h102, hkey71⟩
  obtain ⟨ev102, rfl⟩ := he102.open
  replace hR := hR072 y_key71 hy102
  obtain ⟨key71, e_key71⟩ : ∃ z, z = y_key71 := ⟨_, rfl⟩; subst e_key71
  refine k15 _ _ ?_; clear k15
  refine W.seq_k fun _ k103 => W.regionT [(0, false), (1, true), (2, false), (3, false), (4, false), (5, true), (6, true), (7, true), (8, true), (9, true)] (by kernel_rfl) ?_
  refine Plan.makeO (len := 32) (c := 32) h102 FAgree.el40 rfl rfl rfl (by omega) (by omega) (fun _ => EffO.keep PIn.nil) fun b104 w104 hb104 ho104 h104 => ?_
  refine Plan.move_slice rfl rfl ?_
  refine Plan.constBytesO PIn.nil h104 (f := fun q => VU .u8 (lit ([108#8, 101#8, 116#8, 104#8, 101#8, 32#8, 102#8, 105#8, 114#8, 115#8, 116#8] : List Byte) q)) FAgree.slu40 FAgree.u5 FAgree.sz5 FAgree.zv5 (by decide) (by decide) rfl (fun _ => rfl) (fun _ => rfl) rfl (by kernel_rfl) fun b105 w105 hb105 h105 => ?_
  obtain ⟨x_107, x_108, hr106, hR⟩ := hR
  refine Plan.call (vs := [.slice (some ⟨b104, 0, none⟩) ((List.replicate 32 0#8).length) 32, .slice akey71 key71.length ckey71, .slice (some ⟨b105, 0, none⟩) 11 11, VN 48]) rfl FAgree.call9 rfl (kdf_Derive_ok (iG1 := iG1 + 5) hG1 (iG3 := iG3 + 5) hG3 (by exact (ho104.bx 1 rfl)) (by exact (hkey71.bx 2 rfl)) (by exact (Bx.arr0 (n := 11) (cc := 11) 0 rfl (by omega) (by omega))) hr106 h105) ?_
  rintro _ w114 ⟨ay0_109, py0_110, ny0_111, cy0_112, Fy0_113, rfl, h114, hf114_0⟩
  try dsimp only at hf114_0
  obtain rfl := hf114_0.hl
  refine ⟨_, rfl, .inl ⟨PIn.keep PIn.nil h114, ?_⟩⟩
  refine Plan.move_tuple rfl rfl <| Plan.extract_slice rfl rfl rfl <| Plan.extract_int rfl rfl rfl <| Plan.assign_slice rfl rfl <| Plan.assign_int rfl rfl <| Plan.nil (k103 _ _ ?_); clear k103
  refine W.seq_k fun _ k115 => W.seq_k fun _ k116 => ?_
  refine W.regionT [(0, true), (1, true)] (by kernel_rfl) ?_
  refine Plan.move_int rfl rfl <| Plan.cmpP (a := (((x_108 : Nat) : Int) : Int)) (b := (0 : Int)) (p := x_108 ≠ 0) rfl rfl rfl rfl icmp_neN <| Plan.nil (k116 _ _ ?_); clear k116
  by_cases hc117 : x_108 ≠ 0
  ·
   replace hR := ifT hR hc117
   refine W.condT (congrArg Value.bool (decide_eq_true hc117)) ?_
   refine W.ret (thenR_ret (finR_ret ?_))
   have h118 := St.pickT (C := [_, _, _, _, _, _]) h114 [] (by decide)
   simp only [pick, zfc, zfn, zgz, zgs, zca, zna] at h118
   subst r
   refine RetOk.mk (.agg h114 rfl (.cons 5 rfl .nil) FAgree.agg23 (.agg h114 rfl (.cons 4 rfl .nil) FAgree.agg30 (.tmp_int rfl .nil))) ?_
   exact ⟨rfl, h118⟩
  ·
   replace hR := ifF hR hc117
   refine W.condF (congrArg Value.bool (decide_eq_false hc117)) ?_
   refine W.skip ?_
   refine k115 _ _ ?_; clear k115
   refine W.seq_k fun _ k119 => W.regionT [(0, true), (1, true), (2, false)] (by kernel_rfl) ?_
   refine Plan.slArrO (lo := 0) (hi := 32) (m := 32) (c := 32) (o' := 0) FAgree.arr23 rfl rfl rfl rfl (by omega) (by omega) (by omega) (by omega) <| Plan.move_slice rfl rfl ?_
   refine Plan.copyB (jd := 0) (X := x_107) h114 5 (min x_107.length 32) FAgree.sl40 rfl rfl rfl rfl ((hf114_0.bx 0 rfl).bs' 5 rfl) (fun _ => ⟨_, rfl, rfl⟩) rfl rfl (by omega) (EffO.keep PIn.nil) fun w120 h120 => ?_
   simp only [zca, zna, zsz, zss] at h120
   refine Plan.nil (k119 _ _ ?_); clear k119
   refine W.seq_k fun _ k121 => ?_
   refine W.regionD FAgree.mixed [(0, true), (1, true), (2, true), (3, false)] (by kernel_rfl) ?_
   have h122 := h120.drew
   refine Plan.slArrO (lo := 0) (hi := 16) (m := 16) (c := 16) (o' := 0) FAgree.arr30 rfl rfl rfl rfl (by omega) (by omega) (by omega) (by omega) <| Plan.move_slice rfl rfl ?_
   obtain ⟨hc123, hR⟩ := hR
   have hm124 := hf114_0.hc
   refine Plan.slSl (lo := 32) (hi := x_107.length) FAgree.sl40 rfl rfl ⟨_, rfl⟩ rfl (by omega) ?_
   refine Plan.copyB (jd := 0) (X := (seg x_107 32 x_107.length)) h122 4 (min (x_107.length - 32) 16) FAgree.sl40 rfl rfl rfl rfl (((hf114_0.bx 0 rfl).seg (lo := 32) (hi := x_107.length) hc123).bs' 4 rfl) (fun _ => ⟨_, rfl, rfl⟩) rfl rfl (by omega) (EffO.keep PIn.nil) fun w125 h125 => ?_
   simp only [zca, zna, zsz, zss] at h125
   refine Plan.nil (k121 _ _ ?_); clear k121
   refine W.ret (finR_ret ?_)
   have h126 := St.pickT (C := [_, _, _, _, _, _]) h125 [] (by decide)
   simp only [pick, zfc, zfn, zgz, zgs, zca, zna] at h126
   subst r
   refine RetOk.mk (.agg h125 rfl (.cons 5 rfl .nil) FAgree.agg23 (.agg h125 rfl (.cons 4 rfl .nil) FAgree.agg30 (.tmp_int rfl .nil))) ?_
   exact ⟨rfl, h126⟩
theorem agree_bound_ok {B : Nat} {w0 w : World} {L : List Rg} {first1 : Nat → BitVec 8} {other2 : Nat → BitVec 8} {r : (Nat → BitVec 8)} (hR : agree_bound first1 other2 r) (HST : St B w0 (L) w) :
  Calls Tryd.prog 24 #[AG [(32, fun q => VU .u8 (first1 q))], AG [(32, fun q => VU .u8 (other2 q))]] w fun e w' => e = .returned (AG [(64, fun q => VU .u8 (r q))]) ∧ St B w0 (L) w' := by
 refine W.enter 11 Tryd.func24 rfl rfl rfl ?_
 unfold agree_bound at hR
 refine W.seq_k fun _ k3 => W.regionT [(0, false), (1, false), (2, false)] (by kernel_rfl) ?_
 refine Plan.boxA HST rfl rfl PIn.nil fun b4 w4 hb4 h4 => ?_
 simp only [rngs, Nat.zero_add, Nat.reduceAdd, zca, zna] at h4
 refine Plan.boxA h4 rfl rfl PIn.nil fun b5 w5 hb5 h5 => ?_
 simp only [rngs, Nat.zero_add, Nat.reduceAdd, zca, zna] at h5
 refine Plan.alloc h5 rfl FAgree.z31 PIn.nil fun b6 w6 hb6 h6 => ?_
 simp only [rngs, Nat.zero_add, Nat.reduceAdd, zca, zna] at h6
 refine Plan.nil (k3 _ _ ?_); clear k3
 refine W.seq_k fun _ k7 => ?_
 refine W.regionD FAgree.mixed [(0, true), (1, true), (2, false)] (by kernel_rfl) ?_
 have h8 := h6.drew
 refine Plan.slArrO (lo := 0) (hi := 64) (m := 64) (c := 64) (o' := 0) FAgree.arr31 rfl rfl rfl rfl (by omega) (by omega) (by omega) (by omega) <| Plan.slArrO (lo := 0) (hi := 32) (m := 32) (c := 32) (o' := 0) FAgree.arr23 rfl rfl rfl rfl (by omega) (by omega) (by omega) (by omega) ?_
 refine Plan.copyB (jd := 0) (X := (dl 32 first1)) h8 0 32 FAgree.sl40 rfl rfl rfl rfl ((Bx.arr0 (n := 32) (cc := 32) 2 rfl (by omega) (by omega)).bs' 0 rfl) (fun _ => ⟨_, rfl, rfl⟩) rfl rfl (by omega) (EffO.keep PIn.nil) fun w9 h9 => ?_
 simp only [zca, zna, zsz, zss] at h9
 refine Plan.nil (k7 _ _ ?_); clear k7
 refine W.seq_k fun _ k10 => ?_
 refine W.regionD FAgree.mixed [(0, true), (1, true), (2, false)] (by kernel_rfl) ?_
 have h11 := h9.drew
 refine Plan.slArrO (lo := 32) (hi := 64) (m := 32) (c := 32) (o' := 32) FAgree.arr31 rfl rfl ⟨_, rfl⟩ rfl (by omega) (by omega) (by omega) (by omega) <| Plan.slArrO (lo := 0) (hi := 32) (m := 32) (c := 32) (o' := 0) FAgree.arr23 rfl rfl rfl rfl (by omega) (by omega) (by omega) (by omega) ?_
 refine Plan.copyB (jd := 32) (X := (dl 32 other2)) h11 0 32 FAgree.sl40 rfl rfl rfl rfl ((Bx.arr0 (n := 32) (cc := 32) 1 rfl (by omega) (by omega)).bs' 0 rfl) (fun _ => ⟨_, rfl, rfl⟩) rfl rfl (by omega) (EffO.keep PIn.nil) fun w12 h12 => ?_
 simp only [zca, zna, zsz, zss] at h12
 refine Plan.nil (k10 _ _ ?_); clear k10
 refine W.ret (finR_ret ?_)
 have h13 := St.pickT (C := [_, _, _]) h12 [] (by decide)
 simp only [pick, zfc, zfn, zgz, zgs, zca, zna] at h13
 subst r
 refine RetOk.mk (.agg h12 rfl (.cons 0 rfl .nil) FAgree.agg31 .nil) ?_
 exact ⟨rfl, h13⟩
theorem agree_Start_ok {B : Nat} {w0 w : World} {L : List Rg} {iG0 : Nat} (hG0 : L[iG0]? = some ⟨some 0, 0, 5, fun q => VU .u64 (twice5 q), false⟩) {iG1 : Nat} (hG1 : L[iG1]? = some ⟨some 1, 0, 8, fun q => VU .u32 (H256 q), false⟩) {iG3 : Nat} (hG3 : L[iG3]? = some ⟨some 3, 0, 64, fun q => VU .u32 (K256 q), false⟩) {ownPriv1 : Nat → BitVec 8} {ownPub2 : Nat → BitVec 8} {oncePriv3 : Nat → BitVec 8} {oncePub4 : Nat → BitVec 8} {offerIdentity5 : Nat → BitVec 8} {offerPrekey6 : BitVec 32} {offerKey7 : Nat → BitVec 8} {r : ((Nat → BitVec 8) × (Nat → BitVec 8) × (Nat → BitVec 8) × (Nat → BitVec 8) × (Nat → BitVec 8) × (BitVec 32) × Nat)} (hR : agree_Start ownPriv1 ownPub2 oncePriv3 oncePub4 offerIdentity5 offerPrekey6 offerKey7 r) (HST : St B w0 (L) w) :
  Calls Tryd.prog 14 #[AG [(32, fun q => VU .u8 (ownPriv1 q)), (32, fun q => VU .u8 (ownPub2 q))], AG [(32, fun q => VU .u8 (oncePriv3 q)), (32, fun q => VU .u8 (oncePub4 q))], AG [(32, fun q => VU .u8 (offerIdentity5 q)), (1, fun _ => VU .u32 offerPrekey6), (32, fun q => VU .u8 (offerKey7 q))]] w fun e w' => e = .returned (.tuple #[AG [(32, fun q => VU .u8 (r.1 q))], AG [(16, fun q => VU .u8 (r.2.1 q))], AG [(64, fun q => VU .u8 (r.2.2.1 q))], AG [(32, fun q => VU .u8 (r.2.2.2.1 q)), (32, fun q => VU .u8 (r.2.2.2.2.1 q)), (1, fun _ => VU .u32 r.2.2.2.2.2.1)], VN r.2.2.2.2.2.2]) ∧ St B w0 (L) w' := by
 refine W.enter 51 Tryd.func14 rfl rfl rfl ?_
 unfold agree_Start at hR
 refine W.seq_k fun _ k8 => W.regionT [(0, false), (1, false), (2, false), (3, false), (4, false), (5, false), (6, false), (7, true)] (by kernel_rfl) ?_
 refine Plan.boxA HST rfl rfl PIn.nil fun b9 w9 hb9 h9 => ?_
 simp only [rngs, Nat.zero_add, Nat.reduceAdd, zca, zna] at h9
 refine Plan.boxA h9 rfl rfl PIn.nil fun b10 w10 hb10 h10 => ?_
 simp only [rngs, Nat.zero_add, Nat.reduceAdd, zca, zna] at h10
 refine Plan.boxA h10 rfl rfl PIn.nil fun b11 w11 hb11 h11 => ?_
 simp only [rngs, Nat.zero_add, Nat.reduceAdd, zca, zna] at h11
 refine Plan.alloc h11 rfl FAgree.z23 PIn.nil fun b12 w12 hb12 h12 => ?_
 simp only [rngs, Nat.zero_add, Nat.reduceAdd, zca, zna] at h12
 refine Plan.alloc h12 rfl FAgree.z30 PIn.nil fun b13 w13 hb13 h13 => ?_
 simp only [rngs, Nat.zero_add, Nat.reduceAdd, zca, zna] at h13
 refine Plan.alloc h13 rfl FAgree.z31 PIn.nil fun b14 w14 hb14 h14 => ?_
 simp only [rngs, Nat.zero_add, Nat.reduceAdd, zca, zna] at h14
 refine Plan.alloc h14 rfl FAgree.z33 PIn.nil fun b15 w15 hb15 h15 => ?_
 simp only [rngs, Nat.zero_add, Nat.reduceAdd, zca, zna] at h15
 refine Plan.assign_int rfl rfl <| Plan.nil (k8 _ _ ?_); clear k8
 refine W.seq_k fun _ k16 => W.seq_k fun _ k17 => ?_
 refine W.regionT [(0, true), (1, true), (2, true)] (by kernel_rfl) ?_
 refine Plan.fieldAddr 32 FAgree.fld28_1 rfl rfl <| Plan.load0 h15 7 rfl rfl rfl (by omega) FAgree.sc26 <| Plan.cmpP (a := (offerPrekey6.toNat : Int)) (b := ((0#32).toNat : Int)) (p := offerPrekey6 = 0#32) rfl rfl rfl rfl icmp_eqU <| Plan.nil (k17 _ _ ?_); clear k17
 by_cases hc18 : offerPrekey6 = 0#32
 ·
  replace hR := ifT hR hc18
  refine W.condT (congrArg Value.bool (decide_eq_true hc18)) ?_
  refine W.seq_k fun _ k19 => W.regionT [(0, true)] (by kernel_rfl) ?_
  refine Plan.assign_int rfl rfl <| Plan.nil (k19 _ _ ?_); clear k19
  refine W.ret (thenR_ret (finR_ret ?_))
  have h20 := St.pickT (C := [_, _, _, _, _, _, _, _, _, _, _, _, _]) h15 [] (by decide)
  simp only [pick, zfc, zfn, zgz, zgs, zca, zna] at h20
  subst r
  refine RetOk.mk (.agg h15 rfl (.cons 5 rfl .nil) FAgree.agg23 (.agg h15 rfl (.cons 4 rfl .nil) FAgree.agg30 (.agg h15 rfl (.cons 3 rfl .nil) FAgree.agg31 (.agg h15 rfl (.cons 0 rfl (.cons 1 rfl (.cons 2 rfl .nil))) FAgree.agg33 (.tmp_int rfl .nil))))) ?_
  exact ⟨rfl, h20⟩
 ·
  replace hR := ifF hR hc18
  refine W.condF (congrArg Value.bool (decide_eq_false hc18)) ?_
  refine W.skip ?_
  refine k16 _ _ ?_; clear k16
  refine W.seq_k fun _ k21 => W.regionT [(0, true), (1, true), (2, true), (3, true), (4, true), (5, true), (6, true), (7, true), (8, true), (9, true), (10, true), (11, true), (12, true), (13, true), (14, true), (15, false), (16, false), (17, true), (18, true), (19, true), (20, true), (21, false), (22, false), (23, true)] (by kernel_rfl) ?_
  refine Plan.fieldAddr0 FAgree.fld25_0 rfl rfl <| Plan.loadA1 h15 11 rfl rfl rfl FAgree.agg23 <| Plan.fieldAddr 33 FAgree.fld28_2 rfl rfl <| Plan.loadA1 h15 8 rfl rfl rfl FAgree.agg23 ?_
  refine Plan.buildP (ps := [(32, fun q => VU .u8 (ownPriv1 q)), (32, fun q => VU .u8 (offerKey7 q))]) FAgree.pl66 (by decide) FAgree.z66 rfl rfl (.agg [] [(32, fun q => VU .u8 ((fun _ => 0#8) q))] [(32, fun q => VU .u8 ((fun _ => 0#8) q))] [(32, fun q => VU .u8 (ownPriv1 q))] rfl rfl (.agg [(32, fun q => VU .u8 (ownPriv1 q))] [(32, fun q => VU .u8 ((fun _ => 0#8) q))] [] [(32, fun q => VU .u8 (offerKey7 q))] rfl rfl .nil)) ?_
  refine Plan.fieldAddr0 FAgree.fld25_0 rfl rfl <| Plan.loadA1 h15 9 rfl rfl rfl FAgree.agg23 <| Plan.fieldAddr0 FAgree.fld28_0 rfl rfl <| Plan.loadA1 h15 6 rfl rfl rfl FAgree.agg23 ?_
  refine Plan.buildP (ps := [(32, fun q => VU .u8 (oncePriv3 q)), (32, fun q => VU .u8 (offerIdentity5 q))]) FAgree.pl66 (by decide) FAgree.z66 rfl rfl (.agg [] [(32, fun q => VU .u8 ((fun _ => 0#8) q))] [(32, fun q => VU .u8 ((fun _ => 0#8) q))] [(32, fun q => VU .u8 (oncePriv3 q))] rfl rfl (.agg [(32, fun q => VU .u8 (oncePriv3 q))] [(32, fun q => VU .u8 ((fun _ => 0#8) q))] [] [(32, fun q => VU .u8 (offerIdentity5 q))] rfl rfl .nil)) ?_
  refine Plan.fieldAddr0 FAgree.fld25_0 rfl rfl <| Plan.loadA1 h15 9 rfl rfl rfl FAgree.agg23 <| Plan.fieldAddr 33 FAgree.fld28_2 rfl rfl <| Plan.loadA1 h15 8 rfl rfl rfl FAgree.agg23 ?_
  refine Plan.buildP (ps := [(32, fun q => VU .u8 (oncePriv3 q)), (32, fun q => VU .u8 (offerKey7 q))]) FAgree.pl66 (by decide) FAgree.z66 rfl rfl (.agg [] [(32, fun q => VU .u8 ((fun _ => 0#8) q))] [(32, fun q => VU .u8 ((fun _ => 0#8) q))] [(32, fun q => VU .u8 (oncePriv3 q))] rfl rfl (.agg [(32, fun q => VU .u8 (oncePriv3 q))] [(32, fun q => VU .u8 ((fun _ => 0#8) q))] [] [(32, fun q => VU .u8 (offerKey7 q))] rfl rfl .nil)) ?_
  refine Plan.buildLO (D := D66) (sz := 64) h15 [((), (ownPriv1, offerKey7)), ((), (oncePriv3, offerIdentity5)), ((), (oncePriv3, offerKey7))] FAgree.slu88 FAgree.sz66 FAgree.zv66 (by decide) (by decide) rfl rfl rfl rfl (fun _ _ => trivial) (EffO.keep (PIn.cons 8 rfl (PIn.cons 9 rfl (PIn.cons 6 rfl (PIn.cons 9 rfl (PIn.cons 8 rfl (PIn.cons 11 rfl PIn.nil))))))) fun b23 w23 F23 hb23 ho23 h23 => ?_
  replace ho23 : LO D66 [] (some ⟨b23, 0, none⟩) (some b23) ([(ownPriv1, offerKey7), (oncePriv3, offerIdentity5), (oncePriv3, offerKey7)] : List ((Nat → BitVec 8) × (Nat → BitVec 8))).length 3 F23 ([(ownPriv1, offerKey7), (oncePriv3, offerIdentity5), (oncePriv3, offerKey7)] : List ((Nat → BitVec 8) × (Nat → BitVec 8))) := ho23.re (fun _ _ h => h)
  obtain ⟨x_25, x_26, x_27, hr24, hR⟩ := hR
  refine Plan.call (vs := [.slice (some ⟨b23, 0, none⟩) (([(ownPriv1, offerKey7), (oncePriv3, offerIdentity5), (oncePriv3, offerKey7)] : List ((Nat → BitVec 8) × (Nat → BitVec 8))).length) 3]) rfl FAgree.call23 rfl (agree_made_ok (iG0 := iG0 + 14) hG0 (iG1 := iG1 + 14) hG1 (iG3 := iG3 + 14) hG3 (by exact (LO.lvf D66_flat ho23 0 rfl)) hr24 h23) ?_
  rintro _ w28 ⟨rfl, h28⟩
  refine ⟨_, rfl, .inl ⟨PIn.keep (PIn.cons 9 rfl (PIn.cons 10 rfl (PIn.cons 7 rfl (PIn.cons 10 rfl (PIn.cons 9 rfl (PIn.cons 12 rfl PIn.nil)))))) h28, ?_⟩⟩
  refine Plan.move_tuple rfl rfl <| Plan.extract_agg rfl rfl rfl <| Plan.extract_agg rfl rfl rfl <| Plan.extract_int rfl rfl rfl ?_
  refine Plan.storeA (f' := fun q => VU .u8 (x_25 q)) h28 6 rfl rfl rfl rfl (fun _ _ => rfl) FAgree.sz23 rfl fun w29 h29 => ?_
  simp only [zca, zna, zsz, zss] at h29
  refine Plan.storeA (f' := fun q => VU .u8 (x_26 q)) h29 5 rfl rfl rfl rfl (fun _ _ => rfl) FAgree.sz30 rfl fun w30 h30 => ?_
  simp only [zca, zna, zsz, zss] at h30
  refine Plan.assign_int rfl rfl <| Plan.nil (k21 _ _ ?_); clear k21
  refine W.seq_k fun _ k31 => W.seq_k fun _ k32 => ?_
  refine W.regionT [(0, true), (1, true)] (by kernel_rfl) ?_
  refine Plan.move_int rfl rfl <| Plan.cmpP (a := (((x_27 : Nat) : Int) : Int)) (b := (0 : Int)) (p := x_27 ≠ 0) rfl rfl rfl rfl icmp_neN <| Plan.nil (k32 _ _ ?_); clear k32
  by_cases hc33 : x_27 ≠ 0
  ·
   replace hR := ifT hR hc33
   refine W.condT (congrArg Value.bool (decide_eq_true hc33)) ?_
   refine W.ret (thenR_ret (finR_ret ?_))
   have h34 := St.pickT (C := [_, _, _, _, _, _, _, _, _, _, _, _, _, _]) h30 [] (by decide)
   simp only [pick, zfc, zfn, zgz, zgs, zca, zna] at h34
   subst r
   refine RetOk.mk (.agg h30 rfl (.cons 6 rfl .nil) FAgree.agg23 (.agg h30 rfl (.cons 5 rfl .nil) FAgree.agg30 (.agg h30 rfl (.cons 4 rfl .nil) FAgree.agg31 (.agg h30 rfl (.cons 1 rfl (.cons 2 rfl (.cons 3 rfl .nil))) FAgree.agg33 (.tmp_int rfl .nil))))) ?_
   exact ⟨rfl, h34⟩
  ·
   replace hR := ifF hR hc33
   refine W.condF (congrArg Value.bool (decide_eq_false hc33)) ?_
   refine W.skip ?_
   refine k31 _ _ ?_; clear k31
   refine W.seq_k fun _ k35 => ?_
   refine W.regionD FAgree.mixed [(0, true), (1, true), (2, true), (3, true), (4, true), (5, true), (7, true), (8, true), (9, true), (10, true), (11, true), (12, true), (13, true), (6, false), (14, false), (15, false), (16, false), (17, false), (18, true)] (by kernel_rfl) ?_
   have h36 := h30.drew
   refine Plan.loadA1 h36 6 rfl rfl rfl FAgree.agg23 <| Plan.loadA1 h36 5 rfl rfl rfl FAgree.agg30 <| Plan.fieldAddr 32 FAgree.fld25_1 rfl rfl <| Plan.loadA1 h36 13 rfl rfl rfl FAgree.agg23 <| Plan.fieldAddr0 FAgree.fld28_0 rfl rfl <| Plan.loadA1 h36 7 rfl rfl rfl FAgree.agg23 <| Plan.fieldAddr 32 FAgree.fld25_1 rfl rfl <| Plan.loadA1 h36 13 rfl rfl rfl FAgree.agg23 ?_
   refine Plan.fieldAddr 32 FAgree.fld25_1 rfl rfl <| Plan.loadA1 h36 11 rfl rfl rfl FAgree.agg23 <| Plan.fieldAddr 32 FAgree.fld28_1 rfl rfl <| Plan.load0 h36 8 rfl rfl rfl (by omega) FAgree.sc26 ?_
   refine Plan.buildP (ps := [(32, fun q => VU .u8 (ownPub2 q)), (32, fun q => VU .u8 (oncePub4 q)), (1, fun _ => VU .u32 offerPrekey6)]) FAgree.pl33 (by decide) FAgree.z33 rfl rfl (.agg [] [(32, fun q => VU .u8 ((fun _ => 0#8) q))] [(32, fun q => VU .u8 ((fun _ => 0#8) q)), (1, fun _ => VU .u32 (0#32))] [(32, fun q => VU .u8 (ownPub2 q))] rfl rfl (.agg [(32, fun q => VU .u8 (ownPub2 q))] [(32, fun q => VU .u8 ((fun _ => 0#8) q))] [(1, fun _ => VU .u32 (0#32))] [(32, fun q => VU .u8 (oncePub4 q))] rfl rfl (.one [(32, fun q => VU .u8 (ownPub2 q)), (32, fun q => VU .u8 (oncePub4 q))] [] (fun _ => VU .u32 (0#32)) rfl rfl .nil))) ?_
   obtain ⟨x_38, hr37, hR⟩ := hR
   refine Plan.call (vs := [AG [(32, fun q => VU .u8 (ownPub2 q))], AG [(32, fun q => VU .u8 (offerIdentity5 q))]]) rfl FAgree.call24 rfl (agree_bound_ok  hr37 h36) ?_
   rintro _ w39 ⟨rfl, h39⟩
   refine ⟨_, rfl, .inl ⟨PIn.keep (PIn.cons 8 rfl (PIn.cons 11 rfl (PIn.cons 13 rfl (PIn.cons 7 rfl (PIn.cons 13 rfl (PIn.cons 5 rfl (PIn.cons 6 rfl PIn.nil))))))) h39, ?_⟩⟩
   refine Plan.storeP (ps := [(32, fun q => VU .u8 (x_25 q))]) h39 rfl rfl rfl (.cons 6 rfl .nil) ⟨fun _ _ => rfl, trivial⟩ FAgree.sz23 (EffO.mix _ (Filt.keep rfl (Filt.keep rfl (Filt.keep rfl (Filt.keep rfl (Filt.keep rfl (Filt.keep rfl (Filt.drop rfl Filt.nil))))))) (PIn.cons 8 rfl (PIn.cons 11 rfl (PIn.cons 13 rfl (PIn.cons 7 rfl (PIn.cons 13 rfl (PIn.cons 5 rfl PIn.nil))))))) fun w40 h40 => ?_
   simp only [zca, zna, zsz, zss] at h40
   refine Plan.storeP (ps := [(16, fun q => VU .u8 (x_26 q))]) h40 rfl rfl rfl (.cons 5 rfl .nil) ⟨fun _ _ => rfl, trivial⟩ FAgree.sz30 (EffO.mix _ (Filt.keep rfl (Filt.keep rfl (Filt.keep rfl (Filt.keep rfl (Filt.keep rfl (Filt.drop rfl Filt.nil)))))) (PIn.cons 8 rfl (PIn.cons 11 rfl (PIn.cons 13 rfl (PIn.cons 7 rfl (PIn.cons 13 rfl PIn.nil)))))) fun w41 h41 => ?_
   simp only [zca, zna, zsz, zss] at h41
   refine Plan.storeP (ps := [(64, fun q => VU .u8 (x_38 q))]) h41 rfl rfl rfl (.cons 4 rfl .nil) ⟨fun _ _ => rfl, trivial⟩ FAgree.sz31 (EffO.mix _ (Filt.keep rfl (Filt.keep rfl (Filt.keep rfl (Filt.drop rfl (Filt.drop rfl Filt.nil))))) (PIn.cons 8 rfl (PIn.cons 11 rfl (PIn.cons 13 rfl PIn.nil)))) fun w42 h42 => ?_
   simp only [zca, zna, zsz, zss] at h42
   refine Plan.storeP (ps := [(32, fun q => VU .u8 (ownPub2 q)), (32, fun q => VU .u8 (oncePub4 q)), (1, fun _ => VU .u32 offerPrekey6)]) h42 rfl rfl rfl (.cons 1 rfl (.cons 2 rfl (.cons 3 rfl .nil))) ⟨fun _ _ => rfl, fun _ _ => rfl, fun _ _ => rfl, trivial⟩ FAgree.sz33 (EffO.wait rfl) fun w43 h43 => ?_
   simp only [zca, zna, zsz, zss] at h43
   refine Plan.assign_int rfl rfl <| Plan.nil (k35 _ _ ?_); clear k35
   refine W.ret (finR_ret ?_)
   have h44 := St.pickT (C := [_, _, _, _, _, _, _, _, _, _, _, _, _, _]) h43 [] (by decide)
   simp only [pick, zfc, zfn, zgz, zgs, zca, zna] at h44
   subst r
   refine RetOk.mk (.agg h43 rfl (.cons 6 rfl .nil) FAgree.agg23 (.agg h43 rfl (.cons 5 rfl .nil) FAgree.agg30 (.agg h43 rfl (.cons 4 rfl .nil) FAgree.agg31 (.agg h43 rfl (.cons 1 rfl (.cons 2 rfl (.cons 3 rfl .nil))) FAgree.agg33 (.tmp_int rfl .nil))))) ?_
   exact ⟨rfl, h44⟩
theorem agree_Meet_ok {B : Nat} {w0 w : World} {L : List Rg} {iG0 : Nat} (hG0 : L[iG0]? = some ⟨some 0, 0, 5, fun q => VU .u64 (twice5 q), false⟩) {iG1 : Nat} (hG1 : L[iG1]? = some ⟨some 1, 0, 8, fun q => VU .u32 (H256 q), false⟩) {iG3 : Nat} (hG3 : L[iG3]? = some ⟨some 3, 0, 64, fun q => VU .u32 (K256 q), false⟩) {ownPriv1 : Nat → BitVec 8} {ownPub2 : Nat → BitVec 8} {prekeyPriv3 : Nat → BitVec 8} {prekeyPub4 : Nat → BitVec 8} {helloIdentity5 : Nat → BitVec 8} {helloOnce6 : Nat → BitVec 8} {helloPrekey7 : BitVec 32} {r : ((Nat → BitVec 8) × (Nat → BitVec 8) × (Nat → BitVec 8) × Nat)} (hR : agree_Meet ownPriv1 ownPub2 prekeyPriv3 prekeyPub4 helloIdentity5 helloOnce6 helloPrekey7 r) (HST : St B w0 (L) w) :
  Calls Tryd.prog 22 #[AG [(32, fun q => VU .u8 (ownPriv1 q)), (32, fun q => VU .u8 (ownPub2 q))], AG [(32, fun q => VU .u8 (prekeyPriv3 q)), (32, fun q => VU .u8 (prekeyPub4 q))], AG [(32, fun q => VU .u8 (helloIdentity5 q)), (32, fun q => VU .u8 (helloOnce6 q)), (1, fun _ => VU .u32 helloPrekey7)]] w fun e w' => e = .returned (.tuple #[AG [(32, fun q => VU .u8 (r.1 q))], AG [(16, fun q => VU .u8 (r.2.1 q))], AG [(64, fun q => VU .u8 (r.2.2.1 q))], VN r.2.2.2]) ∧ St B w0 (L) w' := by
 refine W.enter 43 Tryd.func22 rfl rfl rfl ?_
 unfold agree_Meet at hR
 refine W.seq_k fun _ k8 => W.regionT [(0, false), (1, false), (2, false), (3, false), (4, false), (5, false), (6, true)] (by kernel_rfl) ?_
 refine Plan.boxA HST rfl rfl PIn.nil fun b9 w9 hb9 h9 => ?_
 simp only [rngs, Nat.zero_add, Nat.reduceAdd, zca, zna] at h9
 refine Plan.boxA h9 rfl rfl PIn.nil fun b10 w10 hb10 h10 => ?_
 simp only [rngs, Nat.zero_add, Nat.reduceAdd, zca, zna] at h10
 refine Plan.boxA h10 rfl rfl PIn.nil fun b11 w11 hb11 h11 => ?_
 simp only [rngs, Nat.zero_add, Nat.reduceAdd, zca, zna] at h11
 refine Plan.alloc h11 rfl FAgree.z23 PIn.nil fun b12 w12 hb12 h12 => ?_
 simp only [rngs, Nat.zero_add, Nat.reduceAdd, zca, zna] at h12
 refine Plan.alloc h12 rfl FAgree.z30 PIn.nil fun b13 w13 hb13 h13 => ?_
 simp only [rngs, Nat.zero_add, Nat.reduceAdd, zca, zna] at h13
 refine Plan.alloc h13 rfl FAgree.z31 PIn.nil fun b14 w14 hb14 h14 => ?_
 simp only [rngs, Nat.zero_add, Nat.reduceAdd, zca, zna] at h14
 refine Plan.assign_int rfl rfl <| Plan.nil (k8 _ _ ?_); clear k8
 refine W.seq_k fun _ k15 => W.seq_k fun _ k16 => ?_
 refine W.regionT [(0, true), (1, true), (2, true)] (by kernel_rfl) ?_
 refine Plan.fieldAddr 64 FAgree.fld33_2 rfl rfl <| Plan.load0 h14 5 rfl rfl rfl (by omega) FAgree.sc26 <| Plan.cmpP (a := (helloPrekey7.toNat : Int)) (b := ((0#32).toNat : Int)) (p := helloPrekey7 = 0#32) rfl rfl rfl rfl icmp_eqU <| Plan.nil (k16 _ _ ?_); clear k16
 by_cases hc17 : helloPrekey7 = 0#32
 ·
  replace hR := ifT hR hc17
  refine W.condT (congrArg Value.bool (decide_eq_true hc17)) ?_
  refine W.seq_k fun _ k18 => W.regionT [(0, true)] (by kernel_rfl) ?_
  refine Plan.assign_int rfl rfl <| Plan.nil (k18 _ _ ?_); clear k18
  refine W.ret (thenR_ret (finR_ret ?_))
  have h19 := St.pickT (C := [_, _, _, _, _, _, _, _, _, _]) h14 [] (by decide)
  simp only [pick, zfc, zfn, zgz, zgs, zca, zna] at h19
  subst r
  refine RetOk.mk (.agg h14 rfl (.cons 2 rfl .nil) FAgree.agg23 (.agg h14 rfl (.cons 1 rfl .nil) FAgree.agg30 (.agg h14 rfl (.cons 0 rfl .nil) FAgree.agg31 (.tmp_int rfl .nil)))) ?_
  exact ⟨rfl, h19⟩
 ·
  replace hR := ifF hR hc17
  refine W.condF (congrArg Value.bool (decide_eq_false hc17)) ?_
  refine W.skip ?_
  refine k15 _ _ ?_; clear k15
  refine W.seq_k fun _ k20 => W.regionT [(0, true), (1, true), (2, true), (3, true), (4, true), (5, true), (6, true), (7, true), (8, true), (9, true), (10, true), (11, true), (12, true), (13, true), (14, true), (15, false), (16, false), (17, true), (18, true), (19, true), (20, true), (21, false), (22, false), (23, true)] (by kernel_rfl) ?_
  refine Plan.fieldAddr0 FAgree.fld25_0 rfl rfl <| Plan.loadA1 h14 6 rfl rfl rfl FAgree.agg23 <| Plan.fieldAddr0 FAgree.fld33_0 rfl rfl <| Plan.loadA1 h14 3 rfl rfl rfl FAgree.agg23 ?_
  refine Plan.buildP (ps := [(32, fun q => VU .u8 (prekeyPriv3 q)), (32, fun q => VU .u8 (helloIdentity5 q))]) FAgree.pl66 (by decide) FAgree.z66 rfl rfl (.agg [] [(32, fun q => VU .u8 ((fun _ => 0#8) q))] [(32, fun q => VU .u8 ((fun _ => 0#8) q))] [(32, fun q => VU .u8 (prekeyPriv3 q))] rfl rfl (.agg [(32, fun q => VU .u8 (prekeyPriv3 q))] [(32, fun q => VU .u8 ((fun _ => 0#8) q))] [] [(32, fun q => VU .u8 (helloIdentity5 q))] rfl rfl .nil)) ?_
  refine Plan.fieldAddr0 FAgree.fld25_0 rfl rfl <| Plan.loadA1 h14 8 rfl rfl rfl FAgree.agg23 <| Plan.fieldAddr 32 FAgree.fld33_1 rfl rfl <| Plan.loadA1 h14 4 rfl rfl rfl FAgree.agg23 ?_
  refine Plan.buildP (ps := [(32, fun q => VU .u8 (ownPriv1 q)), (32, fun q => VU .u8 (helloOnce6 q))]) FAgree.pl66 (by decide) FAgree.z66 rfl rfl (.agg [] [(32, fun q => VU .u8 ((fun _ => 0#8) q))] [(32, fun q => VU .u8 ((fun _ => 0#8) q))] [(32, fun q => VU .u8 (ownPriv1 q))] rfl rfl (.agg [(32, fun q => VU .u8 (ownPriv1 q))] [(32, fun q => VU .u8 ((fun _ => 0#8) q))] [] [(32, fun q => VU .u8 (helloOnce6 q))] rfl rfl .nil)) ?_
  refine Plan.fieldAddr0 FAgree.fld25_0 rfl rfl <| Plan.loadA1 h14 6 rfl rfl rfl FAgree.agg23 <| Plan.fieldAddr 32 FAgree.fld33_1 rfl rfl <| Plan.loadA1 h14 4 rfl rfl rfl FAgree.agg23 ?_
  refine Plan.buildP (ps := [(32, fun q => VU .u8 (prekeyPriv3 q)), (32, fun q => VU .u8 (helloOnce6 q))]) FAgree.pl66 (by decide) FAgree.z66 rfl rfl (.agg [] [(32, fun q => VU .u8 ((fun _ => 0#8) q))] [(32, fun q => VU .u8 ((fun _ => 0#8) q))] [(32, fun q => VU .u8 (prekeyPriv3 q))] rfl rfl (.agg [(32, fun q => VU .u8 (prekeyPriv3 q))] [(32, fun q => VU .u8 ((fun _ => 0#8) q))] [] [(32, fun q => VU .u8 (helloOnce6 q))] rfl rfl .nil)) ?_
  refine Plan.buildLO (D := D66) (sz := 64) h14 [((), (prekeyPriv3, helloIdentity5)), ((), (ownPriv1, helloOnce6)), ((), (prekeyPriv3, helloOnce6))] FAgree.slu88 FAgree.sz66 FAgree.zv66 (by decide) (by decide) rfl rfl rfl rfl (fun _ _ => trivial) (EffO.keep (PIn.cons 4 rfl (PIn.cons 6 rfl (PIn.cons 4 rfl (PIn.cons 8 rfl (PIn.cons 3 rfl (PIn.cons 6 rfl PIn.nil))))))) fun b22 w22 F22 hb22 ho22 h22 => ?_
  replace ho22 : LO D66 [] (some ⟨b22, 0, none⟩) (some b22) ([(prekeyPriv3, helloIdentity5), (ownPriv1, helloOnce6), (prekeyPriv3, helloOnce6)] : List ((Nat → BitVec 8) × (Nat → BitVec 8))).length 3 F22 ([(prekeyPriv3, helloIdentity5), (ownPriv1, helloOnce6), (prekeyPriv3, helloOnce6)] : List ((Nat → BitVec 8) × (Nat → BitVec 8))) := ho22.re (fun _ _ h => h)
  obtain ⟨x_24, x_25, x_26, hr23, hR⟩ := hR
  refine Plan.call (vs := [.slice (some ⟨b22, 0, none⟩) (([(prekeyPriv3, helloIdentity5), (ownPriv1, helloOnce6), (prekeyPriv3, helloOnce6)] : List ((Nat → BitVec 8) × (Nat → BitVec 8))).length) 3]) rfl FAgree.call23 rfl (agree_made_ok (iG0 := iG0 + 11) hG0 (iG1 := iG1 + 11) hG1 (iG3 := iG3 + 11) hG3 (by exact (LO.lvf D66_flat ho22 0 rfl)) hr23 h22) ?_
  rintro _ w27 ⟨rfl, h27⟩
  refine ⟨_, rfl, .inl ⟨PIn.keep (PIn.cons 5 rfl (PIn.cons 7 rfl (PIn.cons 5 rfl (PIn.cons 9 rfl (PIn.cons 4 rfl (PIn.cons 7 rfl PIn.nil)))))) h27, ?_⟩⟩
  refine Plan.move_tuple rfl rfl <| Plan.extract_agg rfl rfl rfl <| Plan.extract_agg rfl rfl rfl <| Plan.extract_int rfl rfl rfl ?_
  refine Plan.storeA (f' := fun q => VU .u8 (x_24 q)) h27 3 rfl rfl rfl rfl (fun _ _ => rfl) FAgree.sz23 rfl fun w28 h28 => ?_
  simp only [zca, zna, zsz, zss] at h28
  refine Plan.storeA (f' := fun q => VU .u8 (x_25 q)) h28 2 rfl rfl rfl rfl (fun _ _ => rfl) FAgree.sz30 rfl fun w29 h29 => ?_
  simp only [zca, zna, zsz, zss] at h29
  refine Plan.assign_int rfl rfl <| Plan.nil (k20 _ _ ?_); clear k20
  refine W.seq_k fun _ k30 => W.seq_k fun _ k31 => ?_
  refine W.regionT [(0, true), (1, true)] (by kernel_rfl) ?_
  refine Plan.move_int rfl rfl <| Plan.cmpP (a := (((x_26 : Nat) : Int) : Int)) (b := (0 : Int)) (p := x_26 ≠ 0) rfl rfl rfl rfl icmp_neN <| Plan.nil (k31 _ _ ?_); clear k31
  by_cases hc32 : x_26 ≠ 0
  ·
   replace hR := ifT hR hc32
   refine W.condT (congrArg Value.bool (decide_eq_true hc32)) ?_
   refine W.ret (thenR_ret (finR_ret ?_))
   have h33 := St.pickT (C := [_, _, _, _, _, _, _, _, _, _, _]) h29 [] (by decide)
   simp only [pick, zfc, zfn, zgz, zgs, zca, zna] at h33
   subst r
   refine RetOk.mk (.agg h29 rfl (.cons 3 rfl .nil) FAgree.agg23 (.agg h29 rfl (.cons 2 rfl .nil) FAgree.agg30 (.agg h29 rfl (.cons 1 rfl .nil) FAgree.agg31 (.tmp_int rfl .nil)))) ?_
   exact ⟨rfl, h33⟩
  ·
   replace hR := ifF hR hc32
   refine W.condF (congrArg Value.bool (decide_eq_false hc32)) ?_
   refine W.skip ?_
   refine k30 _ _ ?_; clear k30
   refine W.seq_k fun _ k34 => ?_
   refine W.regionD FAgree.mixed [(0, true), (1, true), (2, true), (3, true), (4, true), (5, true), (6, false), (7, false), (8, false), (9, false), (10, true)] (by kernel_rfl) ?_
   have h35 := h29.drew
   refine Plan.loadA1 h35 3 rfl rfl rfl FAgree.agg23 <| Plan.loadA1 h35 2 rfl rfl rfl FAgree.agg30 <| Plan.fieldAddr0 FAgree.fld33_0 rfl rfl <| Plan.loadA1 h35 4 rfl rfl rfl FAgree.agg23 <| Plan.fieldAddr 32 FAgree.fld25_1 rfl rfl <| Plan.loadA1 h35 10 rfl rfl rfl FAgree.agg23 ?_
   obtain ⟨x_37, hr36, hR⟩ := hR
   refine Plan.call (vs := [AG [(32, fun q => VU .u8 (helloIdentity5 q))], AG [(32, fun q => VU .u8 (ownPub2 q))]]) rfl FAgree.call24 rfl (agree_bound_ok  hr36 h35) ?_
   rintro _ w38 ⟨rfl, h38⟩
   refine ⟨_, rfl, .inl ⟨PIn.keep (PIn.cons 10 rfl (PIn.cons 4 rfl (PIn.cons 2 rfl (PIn.cons 3 rfl PIn.nil)))) h38, ?_⟩⟩
   refine Plan.storeP (ps := [(32, fun q => VU .u8 (x_24 q))]) h38 rfl rfl rfl (.cons 3 rfl .nil) ⟨fun _ _ => rfl, trivial⟩ FAgree.sz23 (EffO.mix _ (Filt.keep rfl (Filt.keep rfl (Filt.keep rfl (Filt.drop rfl Filt.nil)))) (PIn.cons 10 rfl (PIn.cons 4 rfl (PIn.cons 2 rfl PIn.nil)))) fun w39 h39 => ?_
   simp only [zca, zna, zsz, zss] at h39
   refine Plan.storeP (ps := [(16, fun q => VU .u8 (x_25 q))]) h39 rfl rfl rfl (.cons 2 rfl .nil) ⟨fun _ _ => rfl, trivial⟩ FAgree.sz30 (EffO.mix _ (Filt.keep rfl (Filt.keep rfl (Filt.drop rfl Filt.nil))) (PIn.cons 10 rfl (PIn.cons 4 rfl PIn.nil))) fun w40 h40 => ?_
   simp only [zca, zna, zsz, zss] at h40
   refine Plan.storeA (f' := fun q => VU .u8 (x_37 q)) h40 1 rfl rfl rfl rfl (fun _ _ => rfl) FAgree.sz31 rfl fun w41 h41 => ?_
   simp only [zca, zna, zsz, zss] at h41
   refine Plan.assign_int rfl rfl <| Plan.nil (k34 _ _ ?_); clear k34
   refine W.ret (finR_ret ?_)
   have h42 := St.pickT (C := [_, _, _, _, _, _, _, _, _, _, _]) h41 [] (by decide)
   simp only [pick, zfc, zfn, zgz, zgs, zca, zna] at h42
   subst r
   refine RetOk.mk (.agg h41 rfl (.cons 3 rfl .nil) FAgree.agg23 (.agg h41 rfl (.cons 2 rfl .nil) FAgree.agg30 (.agg h41 rfl (.cons 1 rfl .nil) FAgree.agg31 (.tmp_int rfl .nil)))) ?_
   exact ⟨rfl, h42⟩
end Go.Proofs.YtjclppnbbpnfnaaDoor
