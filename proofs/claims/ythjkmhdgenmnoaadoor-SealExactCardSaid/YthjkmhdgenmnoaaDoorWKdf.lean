/-
 WALKS of the package's functions, printed by this session's own program (auto.py).
-/
import Derived.Test.YthjkmhdgenmnoaaDoorProg
import Derived.Test.YthjkmhdgenmnoaaDoorEc
import Derived.Test.YthjkmhdgenmnoaaDoorRKdf
import Derived.Test.YthjkmhdgenmnoaaDoorEls
import Derived.Test.YthjkmhdgenmnoaaDoorWSha
namespace Go.Proofs.YthjkmhdgenmnoaaDoor
set_option linter.unusedSimpArgs false
set_option linter.unusedVariables false
set_option linter.unusedSectionVars false
set_option maxRecDepth 8000
set_option maxHeartbeats 1000000
open Go Go.LW
theorem FKdf.mixed : Tryd.prog.follows .mixedOrders = true := by kernel_rfl
theorem FKdf.sc24 : scalarT Tryd.prog 24 = true := by kernel_rfl
theorem FKdf.el24 : elD Tryd.prog 24 = some (1, 1, some (VU .u8 0#8)) := by kernel_rfl
theorem FKdf.sl24 : slB Tryd.prog 24 1 = true := by kernel_rfl
theorem FKdf.zv5 : (Tryd.prog.info? 5).bind (·.zero) = some (VU .u8 0#8) := by kernel_rfl
theorem FKdf.slu24 : Tryd.prog.underlying 24 = some (.slice 5) := by kernel_rfl
theorem FKdf.sz5 : szT Tryd.prog 5 1 = true := by kernel_rfl
theorem FKdf.isl24 : ∃ el, Tryd.prog.underlying 24 = some (.slice el) := ⟨5, by kernel_rfl⟩
theorem FKdf.u5 : Tryd.prog.underlying 5 = some (.int .u8) := by kernel_rfl
theorem FKdf.z58 : zeroIs Tryd.prog 58 [(32, fun _ => VU .u8 0#8)] := zeroIs_agg (by kernel_rfl)
theorem FKdf.zv24 : (Tryd.prog.info? 24).bind (·.zero) = some (.slice none 0 0) := by kernel_rfl
theorem FKdf.slu40 : Tryd.prog.underlying 40 = some (.slice 24) := by kernel_rfl
theorem FKdf.sz24 : szT Tryd.prog 24 1 = true := by kernel_rfl
theorem FKdf.call39 : callB Tryd.prog 39 = true := by kernel_rfl
theorem FKdf.z95 : zeroIs Tryd.prog 95 [(64, fun _ => VU .u8 0#8)] := zeroIs_agg (by kernel_rfl)
theorem FKdf.isl40 : ∃ el, Tryd.prog.underlying 40 = some (.slice el) := ⟨24, by kernel_rfl⟩
theorem FKdf.sl40 : slB Tryd.prog 40 1 = true := by kernel_rfl
theorem FKdf.arr95 : arrB Tryd.prog 95 64 1 = true := by kernel_rfl
theorem FKdf.sc5 : scalarT Tryd.prog 5 = true := by kernel_rfl
theorem FKdf.some3 : (Tryd.prog.underlying 3).isSome = true := by kernel_rfl
theorem FKdf.call40 : callB Tryd.prog 40 = true := by kernel_rfl
theorem FKdf.arr58 : arrB Tryd.prog 58 32 1 = true := by kernel_rfl
theorem FKdf.agg58 : aggT Tryd.prog 58 32 = true := by kernel_rfl
theorem FKdf.sz58 : szT Tryd.prog 58 32 = true := by kernel_rfl
theorem FKdf.call42 : callB Tryd.prog 42 = true := by kernel_rfl
theorem FKdf.call43 : callB Tryd.prog 43 = true := by kernel_rfl
theorem FKdf.call41 : callB Tryd.prog 41 = true := by kernel_rfl
theorem FKdf.call26 : callB Tryd.prog 26 = true := by kernel_rfl
theorem FKdf.call37 : callB Tryd.prog 37 = true := by kernel_rfl
theorem FKdf.call38 : callB Tryd.prog 38 = true := by kernel_rfl
theorem kdf_padded_ok {B : Nat} {w0 w : World} {L : List Rg} {iG0 : Nat} (hG0 : L[iG0]? = some ⟨some 0, 0, 8, fun q => VU .u32 (H256 q), false⟩) {iG1 : Nat} (hG1 : L[iG1]? = some ⟨some 1, 0, 64, fun q => VU .u32 (K256 q), false⟩) {key1 : List Byte} {akey1 : Option Addr} {nkey1 ckey1 ikey1 : Nat} (hkey1 : Bx L ikey1 akey1 nkey1 ckey1 key1) {x_2 : BitVec 8} {r : (List Byte)} (hR : kdf_padded key1 x_2 r) (HST : St B w0 (L) w) :
  Calls Tryd.prog 41 #[.slice akey1 nkey1 ckey1, VU .u8 x_2] w fun e w' => ∃ ay0 : Option Addr, ∃ py0 : Option Nat, ∃ ny0 : Nat, ∃ cy0 : Nat, ∃ Fy0 : Nat → Byte, e = .returned (.slice ay0 ny0 cy0) ∧ St B w0 (⟨py0, 0, cy0, fun q => VU .u8 (Fy0 q), true⟩ :: L) w' ∧ Ow ay0 py0 ny0 cy0 Fy0 r := by
 refine W.enter 29 Tryd.func41 rfl rfl rfl ?_
 unfold kdf_padded at hR
 have ekey1 := hkey1.hl; subst ekey1
 refine W.seq_k fun _ k3 => W.regionT [(0, true)] (by kernel_rfl) ?_
 refine Plan.assign_slice rfl rfl <| Plan.nil (k3 _ _ ?_); clear k3
 refine W.seq_k fun _ k4 => W.regionT [(0, false)] (by kernel_rfl) ?_
 refine Plan.alloc HST rfl FKdf.z95 PIn.nil fun b5 w5 hb5 h5 => ?_
 simp only [rngs, Nat.zero_add, Nat.reduceAdd, zca, zna] at h5
 refine Plan.nil (k4 _ _ ?_); clear k4
 refine W.seq_k fun _ k6 => W.seq_k fun _ k17 => ?_
 refine W.regionT [(0, true), (1, true), (2, true)] (by kernel_rfl) ?_
 refine Plan.move_slice rfl rfl <| Plan.len FKdf.isl24 rfl rfl <| Plan.cmpP (a := (((key1.length : Nat) : Int) : Int)) (b := (64 : Int)) (p := 64 < key1.length) rfl rfl rfl rfl icmp_gtN <| Plan.nil (k17 _ _ ?_); clear k17
 by_cases hc18 : 64 < key1.length
 ·
  replace hR := ifT hR hc18
  refine W.condT (congrArg Value.bool (decide_eq_true hc18)) ?_
  refine W.seq_k fun _ k19 => W.regionT [(0, true), (1, false), (2, false), (3, false), (4, false)] (by kernel_rfl) ?_
  refine Plan.move_slice rfl rfl ?_
  refine Plan.buildSlice h5 (ps := [(1, fun i => .slice ((fun i => ([akey1] : List (Option Addr)).getD i none) i) ((fun i => ([key1.length] : List Nat).getD i 0) i) ((fun i => ([ckey1] : List Nat).getD i 0) i))]) FKdf.slu40 FKdf.sz24 FKdf.zv24 (by decide) (by decide) rfl rfl rfl (EffO.keep PIn.nil) fun b21 w21 hb21 h21 => ?_
  simp only [rngs, List.cons_append, List.nil_append] at h21
  obtain ⟨x_23, hr22, hR⟩ := hR
  refine Plan.call (vs := [.slice (some ⟨b21, 0, none⟩) 1 1]) rfl FKdf.call43 rfl (sha_Sum_ok (iG0 := iG0 + 2) hG0 (iG1 := iG1 + 2) hG1 (by exact (Bss.of 0 rfl rfl (fun i hi => match i, hi with | 0, _ => ⟨_, (hkey1.app [_, _])⟩ | k + 1, hk => absurd hk (by omega)))) hr22 h21) ?_
  rintro _ w24 ⟨rfl, h24⟩
  refine ⟨_, rfl, .inl ⟨PIn.keep PIn.nil h24, ?_⟩⟩
  refine Plan.alloc h24 rfl FKdf.z58 PIn.nil fun b25 w25 hb25 h25 => ?_
  simp only [rngs, Nat.zero_add, Nat.reduceAdd, zca, zna] at h25
  refine Plan.storeA (f' := fun q => VU .u8 (x_23 q)) h25 0 rfl rfl rfl rfl (fun _ _ => rfl) FKdf.sz58 rfl fun w26 h26 => ?_
  simp only [zca, zna, zsz, zss] at h26
  refine Plan.nil (k19 _ _ ?_); clear k19
  refine W.regionT [(0, true), (1, true)] (by kernel_rfl) ?_
  refine Plan.slArrO (lo := 0) (hi := 32) (m := 32) (c := 32) (o' := 0) FKdf.arr58 rfl rfl rfl rfl (by omega) (by omega) (by omega) (by omega) <| Plan.assign_slice rfl rfl <| Plan.nil (k6 _ _ ?_); clear k6
  refine W.seq_k fun _ k27 => W.regionT [(0, true), (1, true), (2, false)] (by kernel_rfl) ?_
  refine Plan.slArrO (lo := 0) (hi := 64) (m := 64) (c := 64) (o' := 0) FKdf.arr95 rfl rfl rfl rfl (by omega) (by omega) (by omega) (by omega) <| Plan.move_slice rfl rfl ?_
  refine Plan.copyB (jd := 0) (X := (dl 32 x_23)) h26 2 32 FKdf.sl24 rfl rfl rfl rfl ((Bx.arr0 (n := 32) (cc := 32) 0 rfl (by omega) (by omega)).bs' 2 rfl) (fun _ => ⟨_, rfl, rfl⟩) rfl rfl (by omega) (EffO.keep PIn.nil) fun w28 h28 => ?_
  simp only [zca, zna, zsz, zss] at h28
  refine Plan.nil (k27 _ _ ?_); clear k27
  refine W.seq_k fun _ k29 => W.seq_k fun _ k30 => ?_
  refine W.regionT [(0, true)] (by kernel_rfl) ?_
  refine Plan.move_int rfl rfl <| Plan.nil (k30 _ _ ?_); clear k30
  obtain ⟨m46, hI47, hR047⟩ := hR
  refine W.cutN (fun e w => ∃ y_m46 : Nat → BitVec 8, m46 = y_m46 ∧ EnvHas e [(5, .pointer (some ⟨b5, 0, none⟩))] ∧ St B w0 (⟨some b5, 0, 64, fun q => VU .u8 (y_m46 q), true⟩ :: L) w) ?_ ?_
  ·
   refine W.block ?_
   have h48 := St.pickT (C := [_, _, _]) h28 [2] (by decide)
   simp only [pick, zfc, zfn, zgz, zgs, zca, zna] at h48
   refine W.iter hI47 (fun (s47 : (Nat × (Nat → BitVec 8))) e w => EnvHas e [(1, VU .u8 x_2), (5, .pointer (some ⟨b5, 0, none⟩)), (18, VN s47.1)] ∧ St B w0 (⟨some b5, 0, 64, fun q => VU .u8 (s47.2 q), true⟩ :: L) w) ⟨(zer (zer (zer zen))), h48⟩ ?_
   rintro ⟨t44, m45⟩ o47 hR hx47 ev49 wl49 ⟨he49, h49⟩
   obtain ⟨ev49, rfl⟩ := he49.open
   unfold kdf_padded_l0 at hR
   refine W.seq_k fun _ k50 => W.regionT [(0, true)] (by kernel_rfl) ?_
   refine Plan.cmpP (a := (((t44 : Nat) : Int) : Int)) (b := (64 : Int)) (p := t44 < 64) rfl rfl rfl rfl icmp_ltN <| Plan.nil (k50 _ _ ?_); clear k50
   refine W.seq_k fun _ k51 => ?_
   by_cases hc52 : t44 < 64
   ·
    replace hR := ifT hR hc52
    refine W.condT (congrArg Value.bool (decide_eq_true hc52)) ?_
    refine W.skip ?_
    refine k51 _ _ ?_; clear k51
    refine W.seq_k fun _ k53 => ?_
    refine W.block ?_
    refine W.seq_k fun _ k54 => W.regionT [(0, true), (1, true)] (by kernel_rfl) ?_
    refine Plan.move_int rfl rfl <| Plan.assign_int rfl rfl <| Plan.nil (k54 _ _ ?_); clear k54
    refine W.regionT [(0, true), (1, true), (2, true), (3, true), (4, true), (5, true), (6, false)] (by kernel_rfl) ?_
    refine Plan.move_int rfl rfl <| Plan.idxArr1 (j := t44) FKdf.arr95 rfl rfl rfl (by omega) <| Plan.load1 (j := t44) h49 0 rfl rfl rfl (by omega) FKdf.sc5 <| Plan.move_int rfl rfl <| Plan.xorU .u8 (X := (m45 t44)) (Y := x_2) rfl rfl rfl <| Plan.idxArr1 (j := t44) FKdf.arr95 rfl rfl rfl (by omega) ?_
    refine Plan.storeU (j := t44) (X := ((m45 t44) ^^^ x_2)) h49 0 rfl rfl rfl rfl (by omega) FKdf.sz5 rfl fun w55 h55 => ?_
    simp only [zca, zna, zsz, zss] at h55
    refine Plan.nil ?_
    refine blockR_norm ?_
    refine k53 _ _ ?_; clear k53
    refine W.regionT [(0, true), (1, true)] (by kernel_rfl) ?_
    refine Plan.addN (a := t44) (b := 1) rfl rfl rfl (by omega) <| Plan.move_int rfl rfl <| Plan.nil ?_
    exact iterR_norm ⟨_, hR, (zer (zer (zer zen))), h55⟩
   ·
    replace hR := ifF hR hc52
    refine W.condF (congrArg Value.bool (decide_eq_false hc52)) ?_
    refine W.exit (thenR_exit (iterR_exit (blockR_here ?_)))
    exact ⟨m45, (hx47 _ hR).symm, (zer zen), h49⟩
  ·
   rintro ev56 wl56 ⟨y_m46, hy56, he56, h56⟩
   obtain ⟨ev56, rfl⟩ := he56.open
   subst hy56
   replace hR := hR047
   refine k29 _ _ ?_; clear k29
   refine W.seq_k fun _ k57 => W.regionT [(0, true), (1, true)] (by kernel_rfl) ?_
   refine Plan.slArrO (lo := 0) (hi := 64) (m := 64) (c := 64) (o' := 0) FKdf.arr95 rfl rfl rfl rfl (by omega) (by omega) (by omega) (by omega) <| Plan.assign_slice rfl rfl <| Plan.nil (k57 _ _ ?_); clear k57
   refine W.ret (finR_ret ?_)
   subst r
   refine RetOk.mk (.tmp_slice rfl .nil) ?_
   exact ⟨some ⟨b5, 0, none⟩, some b5, 64, 64, m46, rfl, h56, Ow.arr⟩
 ·
  replace hR := ifF hR hc18
  refine W.condF (congrArg Value.bool (decide_eq_false hc18)) ?_
  refine W.skip ?_
  refine k6 _ _ ?_; clear k6
  refine W.seq_k fun _ k58 => W.regionT [(0, true), (1, true), (2, false)] (by kernel_rfl) ?_
  refine Plan.slArrO (lo := 0) (hi := 64) (m := 64) (c := 64) (o' := 0) FKdf.arr95 rfl rfl rfl rfl (by omega) (by omega) (by omega) (by omega) <| Plan.move_slice rfl rfl ?_
  refine Plan.copyB (jd := 0) (X := key1) h5 0 (min key1.length 64) FKdf.sl24 rfl rfl rfl rfl ((hkey1.app [_]).bs' 0 rfl) (fun _ => ⟨_, rfl, rfl⟩) rfl rfl (by omega) (EffO.keep PIn.nil) fun w59 h59 => ?_
  simp only [zca, zna, zsz, zss] at h59
  refine Plan.nil (k58 _ _ ?_); clear k58
  refine W.seq_k fun _ k60 => W.seq_k fun _ k61 => ?_
  refine W.regionT [(0, true)] (by kernel_rfl) ?_
  refine Plan.move_int rfl rfl <| Plan.nil (k61 _ _ ?_); clear k61
  obtain ⟨m77, hI78, hR078⟩ := hR
  refine W.cutN (fun e w => ∃ y_m77 : Nat → BitVec 8, m77 = y_m77 ∧ EnvHas e [(5, .pointer (some ⟨b5, 0, none⟩))] ∧ St B w0 (⟨some b5, 0, 64, fun q => VU .u8 (y_m77 q), true⟩ :: L) w) ?_ ?_
  ·
   refine W.block ?_
   refine W.iter hI78 (fun (s78 : (Nat × (Nat → BitVec 8))) e w => EnvHas e [(1, VU .u8 x_2), (5, .pointer (some ⟨b5, 0, none⟩)), (18, VN s78.1)] ∧ St B w0 (⟨some b5, 0, 64, fun q => VU .u8 (s78.2 q), true⟩ :: L) w) ⟨(zer (zer (zer zen))), h59⟩ ?_
   rintro ⟨t75, m76⟩ o78 hR hx78 ev79 wl79 ⟨he79, h79⟩
   obtain ⟨ev79, rfl⟩ := he79.open
   unfold kdf_padded_l1 at hR
   refine W.seq_k fun _ k80 => W.regionT [(0, true)] (by kernel_rfl) ?_
   refine Plan.cmpP (a := (((t75 : Nat) : Int) : Int)) (b := (64 : Int)) (p := t75 < 64) rfl rfl rfl rfl icmp_ltN <| Plan.nil (k80 _ _ ?_); clear k80
   refine W.seq_k fun _ k81 => ?_
   by_cases hc82 : t75 < 64
   ·
    replace hR := ifT hR hc82
    refine W.condT (congrArg Value.bool (decide_eq_true hc82)) ?_
    refine W.skip ?_
    refine k81 _ _ ?_; clear k81
    refine W.seq_k fun _ k83 => ?_
    refine W.block ?_
    refine W.seq_k fun _ k84 => W.regionT [(0, true), (1, true)] (by kernel_rfl) ?_
    refine Plan.move_int rfl rfl <| Plan.assign_int rfl rfl <| Plan.nil (k84 _ _ ?_); clear k84
    refine W.regionT [(0, true), (1, true), (2, true), (3, true), (4, true), (5, true), (6, false)] (by kernel_rfl) ?_
    refine Plan.move_int rfl rfl <| Plan.idxArr1 (j := t75) FKdf.arr95 rfl rfl rfl (by omega) <| Plan.load1 (j := t75) h79 0 rfl rfl rfl (by omega) FKdf.sc5 <| Plan.move_int rfl rfl <| Plan.xorU .u8 (X := (m76 t75)) (Y := x_2) rfl rfl rfl <| Plan.idxArr1 (j := t75) FKdf.arr95 rfl rfl rfl (by omega) ?_
    refine Plan.storeU (j := t75) (X := ((m76 t75) ^^^ x_2)) h79 0 rfl rfl rfl rfl (by omega) FKdf.sz5 rfl fun w85 h85 => ?_
    simp only [zca, zna, zsz, zss] at h85
    refine Plan.nil ?_
    refine blockR_norm ?_
    refine k83 _ _ ?_; clear k83
    refine W.regionT [(0, true), (1, true)] (by kernel_rfl) ?_
    refine Plan.addN (a := t75) (b := 1) rfl rfl rfl (by omega) <| Plan.move_int rfl rfl <| Plan.nil ?_
    exact iterR_norm ⟨_, hR, (zer (zer (zer zen))), h85⟩
   ·
    replace hR := ifF hR hc82
    refine W.condF (congrArg Value.bool (decide_eq_false hc82)) ?_
    refine W.exit (thenR_exit (iterR_exit (blockR_here ?_)))
    exact ⟨m76, (hx78 _ hR).symm, (zer zen), h79⟩
  ·
   rintro ev86 wl86 ⟨y_m77, hy86, he86, h86⟩
   obtain ⟨ev86, rfl⟩ := he86.open
   subst hy86
   replace hR := hR078
   refine k60 _ _ ?_; clear k60
   refine W.seq_k fun _ k87 => W.regionT [(0, true), (1, true)] (by kernel_rfl) ?_
   refine Plan.slArrO (lo := 0) (hi := 64) (m := 64) (c := 64) (o' := 0) FKdf.arr95 rfl rfl rfl rfl (by omega) (by omega) (by omega) (by omega) <| Plan.assign_slice rfl rfl <| Plan.nil (k87 _ _ ?_); clear k87
   refine W.ret (finR_ret ?_)
   subst r
   refine RetOk.mk (.tmp_slice rfl .nil) ?_
   exact ⟨some ⟨b5, 0, none⟩, some b5, 64, 64, m77, rfl, h86, Ow.arr⟩
theorem kdf_Mac_ok {B : Nat} {w0 w : World} {L : List Rg} {iG0 : Nat} (hG0 : L[iG0]? = some ⟨some 0, 0, 8, fun q => VU .u32 (H256 q), false⟩) {iG1 : Nat} (hG1 : L[iG1]? = some ⟨some 1, 0, 64, fun q => VU .u32 (K256 q), false⟩) {key1 : List Byte} {akey1 : Option Addr} {nkey1 ckey1 ikey1 : Nat} (hkey1 : Bx L ikey1 akey1 nkey1 ckey1 key1) {parts2 : List (List Byte)} {aparts2 : Option Addr} {nparts2 cparts2 iparts2 : Nat} (hparts2 : Bss L iparts2 aparts2 nparts2 cparts2 parts2) {r : (Nat → BitVec 8)} (hR : kdf_Mac key1 parts2 r) (HST : St B w0 (L) w) :
  Calls Tryd.prog 26 #[.slice akey1 nkey1 ckey1, .slice aparts2 nparts2 cparts2] w fun e w' => e = .returned (AG [(32, fun q => VU .u8 (r q))]) ∧ St B w0 (L) w' := by
 refine W.enter 31 Tryd.func26 rfl rfl rfl ?_
 unfold kdf_Mac at hR
 have ekey1 := hkey1.hl; subst ekey1
 have eparts2 := hparts2.hl; subst eparts2
 refine W.seq_k fun _ k3 => W.regionT [(0, false)] (by kernel_rfl) ?_
 refine Plan.alloc HST rfl FKdf.z58 PIn.nil fun b4 w4 hb4 h4 => ?_
 simp only [rngs, Nat.zero_add, Nat.reduceAdd, zca, zna] at h4
 refine Plan.nil (k3 _ _ ?_); clear k3
 refine W.seq_k fun _ k5 => W.regionT [(0, false), (1, true)] (by kernel_rfl) ?_
 obtain ⟨x_7, x_8, x_9, hr6, hR⟩ := hR
 refine Plan.call (vs := []) rfl FKdf.call39 rfl (sha_New_ok (iG0 := iG0 + 1) hG0 hr6 h4) ?_
 rintro _ w11 ⟨b0_10, rfl, h11⟩
 refine ⟨_, rfl, .inl ⟨PIn.keep PIn.nil h11, ?_⟩⟩
 refine Plan.assign_ptr rfl rfl <| Plan.nil (k5 _ _ ?_); clear k5
 refine W.seq_k fun _ k12 => W.regionT [(0, true), (1, true), (2, false), (3, false)] (by kernel_rfl) ?_
 refine Plan.move_ptr rfl rfl <| Plan.move_slice rfl rfl ?_
 obtain ⟨x_14, hr13, hR⟩ := hR
 refine Plan.call (vs := [.slice akey1 key1.length ckey1, VU .u8 (54#8)]) rfl FKdf.call41 rfl (kdf_padded_ok (iG0 := iG0 + 4) hG0 (iG1 := iG1 + 4) hG1 (hkey1.app [_, _, _, _]) hr13 h11) ?_
 rintro _ w20 ⟨ay0_15, py0_16, ny0_17, cy0_18, Fy0_19, rfl, h20, hf20_0⟩
 obtain rfl := hf20_0.hl
 refine ⟨_, rfl, .inl ⟨PIn.keep PIn.nil h20, ?_⟩⟩
 have h21 := St.pickT (C := [_, _, _, _, _]) h20 [1, 2, 3, 0, 4] (by decide)
 simp only [pick, zfc, zfn, zgz, zgs, zca, zna] at h21
 obtain ⟨x_23, x_24, x_25, hr22, hR⟩ := hR
 refine Plan.call (vs := [.pointer (some ⟨b0_10, 0, none⟩), .slice ay0_15 x_14.length cy0_18]) rfl FKdf.call40 rfl (sha_Hash_Write_ok (iG1 := iG1 + 2) hG1 (by exact (hf20_0.bx 0 rfl)) hr22 h21) ?_
 rintro _ w26 ⟨rfl, h26⟩
 refine ⟨_, rfl, .inl ⟨PIn.keep PIn.nil h26, ?_⟩⟩
 refine Plan.nil (k12 _ _ ?_); clear k12
 refine W.seq_k fun _ k27 => W.seq_k fun _ k28 => ?_
 refine W.regionT [(0, true), (1, true), (2, true)] (by kernel_rfl) ?_
 refine Plan.move_slice rfl rfl <| Plan.len FKdf.isl40 rfl rfl <| Plan.move_int rfl rfl <| Plan.nil (k28 _ _ ?_); clear k28
 obtain ⟨m62, m63, m64, hI65, hR065⟩ := hR
 refine W.cutN (fun e w => ∃ y_m62 : Nat → BitVec 32, ∃ y_m63 : Nat → BitVec 8, ∃ y_m64 : Int, (m62, m63, m64) = (y_m62, y_m63, y_m64) ∧ EnvHas e [(0, .slice akey1 key1.length ckey1), (4, .pointer (some ⟨b4, 0, none⟩)), (5, .pointer (some ⟨b0_10, 0, none⟩))] ∧ St B w0 (⟨some b0_10, 0, 8, fun q => VU .u32 (y_m62 q), true⟩ :: ⟨some b0_10, 8, 64, fun q => VU .u8 (y_m63 q), true⟩ :: ⟨some b0_10, 72, 1, fun _ => .int .i64 y_m64, true⟩ :: ⟨some b4, 0, 32, fun q => VU .u8 ((fun _ => 0#8) q), true⟩ :: L) w) ?_ ?_
 ·
  refine W.block ?_
  have h66 := St.pickT (C := [_, _, _, _, _]) h26 [0, 1, 2, 4] (by decide)
  simp only [pick, zfc, zfn, zgz, zgs, zca, zna] at h66
  refine W.iter hI65 (fun (s65 : (Nat × (Nat → BitVec 32) × (Nat → BitVec 8) × Int)) e w => EnvHas e [(0, .slice akey1 key1.length ckey1), (4, .pointer (some ⟨b4, 0, none⟩)), (5, .pointer (some ⟨b0_10, 0, none⟩)), (14, .slice aparts2 parts2.length cparts2), (15, VN parts2.length), (16, VN s65.1)] ∧ St B w0 (⟨some b0_10, 0, 8, fun q => VU .u32 (s65.2.1 q), true⟩ :: ⟨some b0_10, 8, 64, fun q => VU .u8 (s65.2.2.1 q), true⟩ :: ⟨some b0_10, 72, 1, fun _ => .int .i64 s65.2.2.2, true⟩ :: ⟨some b4, 0, 32, fun q => VU .u8 ((fun _ => 0#8) q), true⟩ :: L) w) ⟨(zer (zer (zer (zer (zer (zer zen)))))), h66⟩ ?_
  rintro ⟨t58, m59, m60, m61⟩ o65 hR hx65 ev67 wl67 ⟨he67, h67⟩
  obtain ⟨ev67, rfl⟩ := he67.open
  unfold kdf_Mac_l0 at hR
  refine W.seq_k fun _ k68 => W.regionT [(0, true)] (by kernel_rfl) ?_
  refine Plan.cmpP (a := (((t58 : Nat) : Int) : Int)) (b := (((parts2.length : Nat) : Int) : Int)) (p := t58 < parts2.length) rfl rfl rfl rfl icmp_ltN <| Plan.nil (k68 _ _ ?_); clear k68
  refine W.seq_k fun _ k69 => ?_
  by_cases hc70 : t58 < parts2.length
  ·
   replace hR := ifT hR hc70
   refine W.condT (congrArg Value.bool (decide_eq_true hc70)) ?_
   refine W.skip ?_
   refine k69 _ _ ?_; clear k69
   refine W.seq_k fun _ k71 => ?_
   refine W.block ?_
   refine W.seq_k fun _ k72 => W.regionT [(0, true), (1, true), (2, true)] (by kernel_rfl) ?_
   obtain ⟨hc73, hR⟩ := hR
   refine Plan.idxBss (j := t58) hparts2 FKdf.sl40 rfl rfl rfl hc73 ?_
   refine Plan.loadBss (D := [_, _, _, _]) (j := t58) h67 hparts2 rfl rfl hc73 FKdf.sc24 fun r74 i74 a74 c74 hr74 hv74 => ?_
   refine Plan.assign_slice rfl rfl <| Plan.nil (k72 _ _ ?_); clear k72
   refine W.regionT [(0, true), (1, true), (2, false)] (by kernel_rfl) ?_
   refine Plan.move_ptr rfl rfl <| Plan.move_slice rfl rfl ?_
   obtain ⟨x_76, x_77, x_78, hr75, hR⟩ := hR
   refine Plan.call (vs := [.pointer (some ⟨b0_10, 0, none⟩), .slice a74 ((parts2.getD t58 []).length) c74]) rfl FKdf.call40 rfl (sha_Hash_Write_ok (iG1 := iG1 + 1) hG1 (hv74.app [_]) hr75 h67) ?_
   rintro _ w79 ⟨rfl, h79⟩
   refine ⟨_, rfl, .inl ⟨PIn.keep PIn.nil h79, ?_⟩⟩
   refine Plan.nil ?_
   refine blockR_norm ?_
   refine k71 _ _ ?_; clear k71
   refine W.regionT [(0, true), (1, true)] (by kernel_rfl) ?_
   obtain ⟨hc80, hR⟩ := hR
   refine Plan.addN (a := t58) (b := 1) rfl rfl rfl (by omega) <| Plan.move_int rfl rfl <| Plan.nil ?_
   exact iterR_norm ⟨_, hR, (zer (zer (zer (zer (zer (zer zen)))))), h79⟩
  ·
   replace hR := ifF hR hc70
   refine W.condF (congrArg Value.bool (decide_eq_false hc70)) ?_
   refine W.exit (thenR_exit (iterR_exit (blockR_here ?_)))
   exact ⟨m59, m60, m61, (hx65 _ hR).symm, (zer (zer (zer zen))), h67⟩
 ·
  rintro ev81 wl81 ⟨y_m62, y_m63, y_m64, hy81, he81, h81⟩
  obtain ⟨ev81, rfl⟩ := he81.open
  cases hy81
  replace hR := hR065
  refine k27 _ _ ?_; clear k27
  refine W.seq_k fun _ k82 => W.regionT [(0, true), (1, false), (2, false), (3, false)] (by kernel_rfl) ?_
  refine Plan.move_ptr rfl rfl ?_
  obtain ⟨x_84, hr83, hR⟩ := hR
  refine Plan.call (vs := [.pointer (some ⟨b0_10, 0, none⟩)]) rfl FKdf.call42 rfl (sha_Hash_Sum_ok (iG1 := iG1 + 1) hG1 hr83 h81) ?_
  rintro _ w85 ⟨rfl, h85⟩
  refine ⟨_, rfl, .inl ⟨PIn.keep PIn.nil h85, ?_⟩⟩
  refine Plan.alloc h85 rfl FKdf.z58 PIn.nil fun b86 w86 hb86 h86 => ?_
  simp only [rngs, Nat.zero_add, Nat.reduceAdd, zca, zna] at h86
  refine Plan.storeA (f' := fun q => VU .u8 (x_84 q)) h86 0 rfl rfl rfl rfl (fun _ _ => rfl) FKdf.sz58 rfl fun w87 h87 => ?_
  simp only [zca, zna, zsz, zss] at h87
  refine Plan.nil (k82 _ _ ?_); clear k82
  refine W.seq_k fun _ k88 => ?_
  refine W.regionD FKdf.mixed [(0, true), (2, true), (1, false), (3, false), (4, false), (5, false)] (by kernel_rfl) ?_
  have h89 := h87.drew
  refine Plan.move_slice rfl rfl <| Plan.slArrO (lo := 0) (hi := 32) (m := 32) (c := 32) (o' := 0) FKdf.arr58 rfl rfl rfl rfl (by omega) (by omega) (by omega) (by omega) ?_
  obtain ⟨x_91, hr90, hR⟩ := hR
  refine Plan.call (vs := [.slice akey1 key1.length ckey1, VU .u8 (92#8)]) rfl FKdf.call41 rfl (kdf_padded_ok (iG0 := iG0 + 5) hG0 (iG1 := iG1 + 5) hG1 (hkey1.app [_, _, _, _, _]) hr90 h89) ?_
  rintro _ w97 ⟨ay0_92, py0_93, ny0_94, cy0_95, Fy0_96, rfl, h97, hf97_0⟩
  obtain rfl := hf97_0.hl
  refine ⟨_, rfl, .inl ⟨PIn.keep PIn.nil h97, ?_⟩⟩
  refine Plan.buildSlice h97 (ps := [(2, fun i => .slice ((fun i => ([ay0_92, some ⟨b86, 0, none⟩] : List (Option Addr)).getD i none) i) ((fun i => ([x_91.length, 32] : List Nat).getD i 0) i) ((fun i => ([cy0_95, 32] : List Nat).getD i 0) i))]) FKdf.slu40 FKdf.sz24 FKdf.zv24 (by decide) (by decide) rfl rfl rfl (EffO.keep PIn.nil) fun b99 w99 hb99 h99 => ?_
  simp only [rngs, List.cons_append, List.nil_append] at h99
  obtain ⟨x_101, hr100, hR⟩ := hR
  refine Plan.call (vs := [.slice (some ⟨b99, 0, none⟩) 2 2]) rfl FKdf.call43 rfl (sha_Sum_ok (iG0 := iG0 + 7) hG0 (iG1 := iG1 + 7) hG1 (by exact (Bss.of 0 rfl rfl (fun i hi => match i, hi with | 0, _ => ⟨_, (hf97_0.bx 1 rfl)⟩ | 1, _ => ⟨_, (Bx.arr0 (n := 32) (cc := 32) 2 rfl (by omega) (by omega))⟩ | k + 2, hk => absurd hk (by omega)))) hr100 h99) ?_
  rintro _ w102 ⟨rfl, h102⟩
  refine ⟨_, rfl, .inl ⟨PIn.keep PIn.nil h102, ?_⟩⟩
  refine Plan.storeA (f' := fun q => VU .u8 (x_101 q)) h102 6 rfl rfl rfl rfl (fun _ _ => rfl) FKdf.sz58 rfl fun w103 h103 => ?_
  simp only [zca, zna, zsz, zss] at h103
  refine Plan.nil (k88 _ _ ?_); clear k88
  refine W.ret (finR_ret ?_)
  have h104 := St.pickT (C := [_, _, _, _, _, _, _]) h103 [] (by decide)
  simp only [pick, zfc, zfn, zgz, zgs, zca, zna] at h104
  subst r
  refine RetOk.mk (.agg h103 rfl (.cons 6 rfl .nil) FKdf.agg58 .nil) ?_
  exact ⟨rfl, h104⟩
theorem kdf_Extract_ok {B : Nat} {w0 w : World} {L : List Rg} {iG0 : Nat} (hG0 : L[iG0]? = some ⟨some 0, 0, 8, fun q => VU .u32 (H256 q), false⟩) {iG1 : Nat} (hG1 : L[iG1]? = some ⟨some 1, 0, 64, fun q => VU .u32 (K256 q), false⟩) {salt1 : List Byte} {asalt1 : Option Addr} {nsalt1 csalt1 isalt1 : Nat} (hsalt1 : Bx L isalt1 asalt1 nsalt1 csalt1 salt1) {key2 : List Byte} {akey2 : Option Addr} {nkey2 ckey2 ikey2 : Nat} (hkey2 : Bx L ikey2 akey2 nkey2 ckey2 key2) {r : (Nat → BitVec 8)} (hR : kdf_Extract salt1 key2 r) (HST : St B w0 (L) w) :
  Calls Tryd.prog 37 #[.slice asalt1 nsalt1 csalt1, .slice akey2 nkey2 ckey2] w fun e w' => e = .returned (AG [(32, fun q => VU .u8 (r q))]) ∧ St B w0 (L) w' := by
 refine W.enter 9 Tryd.func37 rfl rfl rfl ?_
 unfold kdf_Extract at hR
 have esalt1 := hsalt1.hl; subst esalt1
 have ekey2 := hkey2.hl; subst ekey2
 refine W.seq_k fun _ k3 => W.regionT [(0, false)] (by kernel_rfl) ?_
 refine Plan.alloc HST rfl FKdf.z58 PIn.nil fun b4 w4 hb4 h4 => ?_
 simp only [rngs, Nat.zero_add, Nat.reduceAdd, zca, zna] at h4
 refine Plan.nil (k3 _ _ ?_); clear k3
 refine W.seq_k fun _ k5 => W.regionT [(0, true), (1, true), (2, false), (3, false), (4, false)] (by kernel_rfl) ?_
 refine Plan.move_slice rfl rfl <| Plan.move_slice rfl rfl ?_
 refine Plan.buildSlice h4 (ps := [(1, fun i => .slice ((fun i => ([akey2] : List (Option Addr)).getD i none) i) ((fun i => ([key2.length] : List Nat).getD i 0) i) ((fun i => ([ckey2] : List Nat).getD i 0) i))]) FKdf.slu40 FKdf.sz24 FKdf.zv24 (by decide) (by decide) rfl rfl rfl (EffO.keep PIn.nil) fun b7 w7 hb7 h7 => ?_
 simp only [rngs, List.cons_append, List.nil_append] at h7
 obtain ⟨x_9, hr8, hR⟩ := hR
 refine Plan.call (vs := [.slice asalt1 salt1.length csalt1, .slice (some ⟨b7, 0, none⟩) 1 1]) rfl FKdf.call26 rfl (kdf_Mac_ok (iG0 := iG0 + 2) hG0 (iG1 := iG1 + 2) hG1 (hsalt1.app [_, _]) (by exact (Bss.of 0 rfl rfl (fun i hi => match i, hi with | 0, _ => ⟨_, (hkey2.app [_, _])⟩ | k + 1, hk => absurd hk (by omega)))) hr8 h7) ?_
 rintro _ w10 ⟨rfl, h10⟩
 refine ⟨_, rfl, .inl ⟨PIn.keep PIn.nil h10, ?_⟩⟩
 refine Plan.storeA (f' := fun q => VU .u8 (x_9 q)) h10 1 rfl rfl rfl rfl (fun _ _ => rfl) FKdf.sz58 rfl fun w11 h11 => ?_
 simp only [zca, zna, zsz, zss] at h11
 refine Plan.nil (k5 _ _ ?_); clear k5
 refine W.ret (finR_ret ?_)
 have h12 := St.pickT (C := [_, _]) h11 [] (by decide)
 simp only [pick, zfc, zfn, zgz, zgs, zca, zna] at h12
 subst r
 refine RetOk.mk (.agg h11 rfl (.cons 1 rfl .nil) FKdf.agg58 .nil) ?_
 exact ⟨rfl, h12⟩
theorem kdf_Expand_ok {B : Nat} {w0 w : World} {L : List Rg} {iG0 : Nat} (hG0 : L[iG0]? = some ⟨some 0, 0, 8, fun q => VU .u32 (H256 q), false⟩) {iG1 : Nat} (hG1 : L[iG1]? = some ⟨some 1, 0, 64, fun q => VU .u32 (K256 q), false⟩) {prk1 : List Byte} {aprk1 : Option Addr} {nprk1 cprk1 iprk1 : Nat} (hprk1 : Bx L iprk1 aprk1 nprk1 cprk1 prk1) {info2 : List Byte} {ainfo2 : Option Addr} {ninfo2 cinfo2 iinfo2 : Nat} (hinfo2 : Bx L iinfo2 ainfo2 ninfo2 cinfo2 info2) {n_3 : Int} {r : ((List Byte) × Nat)} (hR : kdf_Expand prk1 info2 n_3 r) (HST : St B w0 (L) w) :
  Calls Tryd.prog 38 #[.slice aprk1 nprk1 cprk1, .slice ainfo2 ninfo2 cinfo2, .int .i64 n_3] w fun e w' => ∃ ay0 : Option Addr, ∃ py0 : Option Nat, ∃ ny0 : Nat, ∃ cy0 : Nat, ∃ Fy0 : Nat → Byte, e = .returned (.tuple #[.slice ay0 ny0 cy0, VN r.2]) ∧ St B w0 (⟨py0, 0, cy0, fun q => VU .u8 (Fy0 q), true⟩ :: L) w' ∧ Ow ay0 py0 ny0 cy0 Fy0 r.1 := by
 refine W.enter 41 Tryd.func38 rfl rfl rfl ?_
 unfold kdf_Expand at hR
 have eprk1 := hprk1.hl; subst eprk1
 have einfo2 := hinfo2.hl; subst einfo2
 refine W.seq_k fun _ k4 => W.regionT [(0, true), (1, true)] (by kernel_rfl) ?_
 refine Plan.assign_slice rfl rfl <| Plan.assign_int rfl rfl <| Plan.nil (k4 _ _ ?_); clear k4
 refine W.seq_k fun _ k5 => W.seq_k fun _ k6 => ?_
 refine W.regionT [(0, true), (1, true)] (by kernel_rfl) ?_
 refine Plan.move_int rfl rfl <| Plan.cmpP (a := (n_3 : Int)) (b := (0 : Int)) (p := n_3 < 0) rfl rfl rfl rfl icmp_lt <| Plan.nil (k6 _ _ ?_); clear k6
 by_cases hc7 : n_3 < 0
 ·
  replace hR := ifT hR hc7
  refine W.condT (congrArg Value.bool (decide_eq_true hc7)) ?_
  refine W.seq_k fun _ k8 => W.regionT [(0, true), (1, true)] (by kernel_rfl) ?_
  refine Plan.assign_slice rfl rfl <| Plan.assign_int rfl rfl <| Plan.nil (k8 _ _ ?_); clear k8
  refine W.ret (thenR_ret (finR_ret ?_))
  have h9 := HST.nilR
  subst r
  refine RetOk.mk (.tmp_slice rfl (.tmp_int rfl .nil)) ?_
  exact ⟨none, none, 0, 0, (fun _ => 0#8), rfl, h9, Ow.nil⟩
 ·
  replace hR := ifF hR hc7
  refine W.condF (congrArg Value.bool (decide_eq_false hc7)) ?_
  refine W.skip ?_
  refine k5 _ _ ?_; clear k5
  refine W.seq_k fun _ k10 => W.seq_k fun _ k11 => ?_
  refine W.regionT [(0, true), (1, true)] (by kernel_rfl) ?_
  refine Plan.move_int rfl rfl <| Plan.cmpP (a := (n_3 : Int)) (b := (8160 : Int)) (p := 8160 < n_3) rfl rfl rfl rfl icmp_gt <| Plan.nil (k11 _ _ ?_); clear k11
  by_cases hc12 : 8160 < n_3
  ·
   replace hR := ifT hR hc12
   refine W.condT (congrArg Value.bool (decide_eq_true hc12)) ?_
   refine W.seq_k fun _ k13 => W.regionT [(0, true), (1, true)] (by kernel_rfl) ?_
   refine Plan.assign_slice rfl rfl <| Plan.assign_int rfl rfl <| Plan.nil (k13 _ _ ?_); clear k13
   refine W.ret (thenR_ret (finR_ret ?_))
   have h14 := HST.nilR
   subst r
   refine RetOk.mk (.tmp_slice rfl (.tmp_int rfl .nil)) ?_
   exact ⟨none, none, 0, 0, (fun _ => 0#8), rfl, h14, Ow.nil⟩
  ·
   replace hR := ifF hR hc12
   refine W.condF (congrArg Value.bool (decide_eq_false hc12)) ?_
   refine W.skip ?_
   refine k10 _ _ ?_; clear k10
   refine W.seq_k fun _ k15 => W.regionT [(0, true), (1, true), (2, false), (3, true)] (by kernel_rfl) ?_
   refine Plan.move_int rfl rfl <| Plan.addI (a := n_3) (b := 32) rfl rfl rfl (by omega) ?_
   obtain ⟨hc17, hR⟩ := hR
   obtain ⟨hc18, hR⟩ := hR
   refine Plan.makeO (len := 0) (c := (n_3 + 32).toNat) HST FKdf.el24 rfl rfl (congrArg (Value.int .i64) (Int.toNat_of_nonneg hc17).symm) hc18.1 hc18.2 (fun _ => EffO.keep PIn.nil) fun b16 w16 hb16 ho16 h16 => ?_
   refine Plan.assign_slice rfl rfl <| Plan.nil (k15 _ _ ?_); clear k15
   refine W.seq_k fun _ k19 => W.regionT [(0, true)] (by kernel_rfl) ?_
   refine Plan.assign_slice rfl rfl <| Plan.nil (k19 _ _ ?_); clear k19
   refine W.seq_k fun _ k20 => W.seq_k fun _ k21 => ?_
   refine W.regionT [(0, true)] (by kernel_rfl) ?_
   refine Plan.assign_int rfl rfl <| Plan.nil (k21 _ _ ?_); clear k21
   have h66 := h16.nilR
   obtain ⟨out64, hI65, hR065⟩ := hR
   refine W.cutN (fun e w => ∃ y_out64 : List Byte, out64 = y_out64 ∧ ∃ aout64 : Option Addr, ∃ pout64 : Option Nat, ∃ cout64 : Nat, ∃ Fout64 : Nat → Byte, EnvHas e [(2, .int .i64 n_3), (8, .slice aout64 y_out64.length cout64)] ∧ St B w0 (⟨pout64, 0, cout64, fun q => VU .u8 (Fout64 q), true⟩ :: L) w ∧ Ow aout64 pout64 y_out64.length cout64 Fout64 y_out64) ?_ ?_
   ·
    refine W.block ?_
    have h67 := St.pickT (C := [_, _]) h66 [1, 0] (by decide)
    simp only [pick, zfc, zfn, zgz, zgs, zca, zna] at h67
    refine W.iter hI65 (fun (s65 : ((List Byte) × (List Byte) × Nat)) e w => ∃ aout60 : Option Addr, ∃ pout60 : Option Nat, ∃ cout60 : Nat, ∃ Fout60 : Nat → Byte, ∃ alast61 : Option Addr, ∃ plast61 : Option Nat, ∃ clast61 : Nat, ∃ Flast61 : Nat → Byte, EnvHas e [(0, .slice aprk1 prk1.length cprk1), (1, .slice ainfo2 info2.length cinfo2), (2, .int .i64 n_3), (8, .slice aout60 s65.1.length cout60), (9, .slice alast61 s65.2.1.length clast61), (10, VN s65.2.2)] ∧ St B w0 (⟨pout60, 0, cout60, fun q => VU .u8 (Fout60 q), true⟩ :: ⟨plast61, 0, clast61, fun q => VU .u8 (Flast61 q), true⟩ :: L) w ∧ Ow aout60 pout60 s65.1.length cout60 Fout60 s65.1 ∧ Ow alast61 plast61 s65.2.1.length clast61 Flast61 s65.2.1) ⟨some ⟨b16, 0, none⟩, some b16, (n_3 + 32).toNat, (fun _ => 0#8), none, none, 0, (fun _ => 0#8), (zer (zer (zer (zer (zer (zer zen)))))), h67, ho16, Ow.nil⟩ ?_
    rintro ⟨out60, last61, k63⟩ o65 hR hx65 ev68 wl68 ⟨aout60, pout60, cout60, Fout60, alast61, plast61, clast61, Flast61, he68, h68, hout60, hlast61⟩
    obtain ⟨ev68, rfl⟩ := he68.open
    unfold kdf_Expand_l0 at hR
    refine W.seq_k fun _ k69 => W.seq_k fun _ k70 => ?_
    refine W.regionT [(0, true), (1, true), (2, true), (3, true)] (by kernel_rfl) ?_
    refine Plan.move_slice rfl rfl <| Plan.len FKdf.isl24 rfl rfl <| Plan.move_int rfl rfl <| Plan.cmpP (a := (((out60.length : Nat) : Int) : Int)) (b := (n_3 : Int)) (p := ((out60.length : Nat) : Int) < n_3) rfl rfl rfl rfl icmp_lt <| Plan.nil (k70 _ _ ?_); clear k70
    by_cases hc71 : ((out60.length : Nat) : Int) < n_3
    ·
     replace hR := ifT hR hc71
     refine W.condT (congrArg Value.bool (decide_eq_true hc71)) ?_
     refine W.skip ?_
     refine k69 _ _ ?_; clear k69
     refine W.seq_k fun _ k72 => ?_
     refine W.block ?_
     refine W.seq_k fun _ k73 => W.regionT [(0, true), (1, true), (2, true), (3, true), (4, true), (5, false), (6, false), (7, false), (8, false), (9, false)] (by kernel_rfl) ?_
     refine Plan.move_slice rfl rfl <| Plan.move_slice rfl rfl <| Plan.move_slice rfl rfl <| Plan.move_int rfl rfl <| Plan.convNU .u8 (a := k63) FKdf.u5 FKdf.some3 rfl rfl ?_
     refine Plan.buildSlice h68 (ps := [(1, fun q => VU .u8 (lit ([(BitVec.ofNat 8 k63)] : List Byte) q))]) FKdf.slu24 FKdf.sz5 FKdf.zv5 (by decide) (by decide) rfl rfl rfl (EffO.keep PIn.nil) fun b74 w74 hb74 h74 => ?_
     simp only [rngs, List.cons_append, List.nil_append] at h74
     have ho74 : Ow (some ⟨b74, 0, none⟩) (some b74) ([(BitVec.ofNat 8 k63)] : List Byte).length 1 (lit ([(BitVec.ofNat 8 k63)] : List Byte)) ([(BitVec.ofNat 8 k63)] : List Byte) := ⟨.inr ⟨b74, rfl, rfl⟩, Nat.le_refl _, rfl, fun q _ => rfl⟩
     refine Plan.buildSlice h74 (ps := [(3, fun i => .slice ((fun i => ([alast61, ainfo2, some ⟨b74, 0, none⟩] : List (Option Addr)).getD i none) i) ((fun i => ([last61.length, info2.length, ([(BitVec.ofNat 8 k63)] : List Byte).length] : List Nat).getD i 0) i) ((fun i => ([clast61, cinfo2, 1] : List Nat).getD i 0) i))]) FKdf.slu40 FKdf.sz24 FKdf.zv24 (by decide) (by decide) rfl rfl rfl (EffO.keep PIn.nil) fun b76 w76 hb76 h76 => ?_
     simp only [rngs, List.cons_append, List.nil_append] at h76
     obtain ⟨x_78, hr77, hR⟩ := hR
     refine Plan.call (vs := [.slice aprk1 prk1.length cprk1, .slice (some ⟨b76, 0, none⟩) 3 3]) rfl FKdf.call26 rfl (kdf_Mac_ok (iG0 := iG0 + 4) hG0 (iG1 := iG1 + 4) hG1 (hprk1.app [_, _, _, _]) (by exact (Bss.of 0 rfl rfl (fun i hi => match i, hi with | 0, _ => ⟨_, (hlast61.bx 3 rfl)⟩ | 1, _ => ⟨_, (hinfo2.app [_, _, _, _])⟩ | 2, _ => ⟨_, (ho74.bx 1 rfl)⟩ | k + 3, hk => absurd hk (by omega)))) hr77 h76) ?_
     rintro _ w79 ⟨rfl, h79⟩
     refine ⟨_, rfl, .inl ⟨PIn.keep PIn.nil h79, ?_⟩⟩
     refine Plan.alloc h79 rfl FKdf.z58 PIn.nil fun b80 w80 hb80 h80 => ?_
     simp only [rngs, Nat.zero_add, Nat.reduceAdd, zca, zna] at h80
     refine Plan.storeA (f' := fun q => VU .u8 (x_78 q)) h80 0 rfl rfl rfl rfl (fun _ _ => rfl) FKdf.sz58 rfl fun w81 h81 => ?_
     simp only [zca, zna, zsz, zss] at h81
     refine Plan.nil (k73 _ _ ?_); clear k73
     refine W.seq_k fun _ k82 => W.regionT [(0, true), (1, true)] (by kernel_rfl) ?_
     refine Plan.slArrO (lo := 0) (hi := 32) (m := 32) (c := 32) (o' := 0) FKdf.arr58 rfl rfl rfl rfl (by omega) (by omega) (by omega) (by omega) <| Plan.assign_slice rfl rfl <| Plan.nil (k82 _ _ ?_); clear k82
     refine W.regionT [(0, true), (1, true), (2, false), (3, true)] (by kernel_rfl) ?_
     refine Plan.move_slice rfl rfl <| Plan.move_slice rfl rfl ?_
     obtain ⟨hc84, hR⟩ := hR
     refine Plan.appendO (X := out60) (Y := (dl 32 x_78)) h81 3 hout60 FKdf.el24 FKdf.sl24 rfl rfl rfl rfl (Bx.arr0 (n := 32) (cc := 32) 0 rfl (by omega) (by omega)) hc84 (fun _ => EffO.keep PIn.nil) fun a83 pb83 cap83 F83 w83 ho83 h83 => ?_
     simp only [zca, zna, zsz, zss] at h83
     refine Plan.assign_slice rfl rfl <| Plan.nil ?_
     refine blockR_norm ?_
     refine k72 _ _ ?_; clear k72
     refine W.regionT [(0, true), (1, true), (2, true)] (by kernel_rfl) ?_
     refine Plan.move_int rfl rfl ?_
     obtain ⟨hc85, hR⟩ := hR
     refine Plan.addN (a := k63) (b := 1) rfl rfl rfl (by omega) <| Plan.assign_int rfl rfl <| Plan.nil ?_
     have h86 := St.pickT (C := [_, _, _, _, _]) h83 [3, 0] (by decide)
     simp only [pick, zfc, zfn, zgz, zgs, zca, zna] at h86
     exact iterR_norm ⟨_, hR, a83, pb83, cap83, F83, some ⟨b80, 0, none⟩, some b80, 32, x_78, (zer (zer (zer (zer (zer (zer zen)))))), h86, ho83, Ow.arr⟩
    ·
     replace hR := ifF hR hc71
     refine W.condF (congrArg Value.bool (decide_eq_false hc71)) ?_
     refine W.exit (thenR_exit (iterR_exit (blockR_here ?_)))
     have h87 := St.pickT (C := [_, _]) h68 [0] (by decide)
     simp only [pick, zfc, zfn, zgz, zgs, zca, zna] at h87
     exact ⟨out60, (hx65 _ hR).symm, aout60, pout60, cout60, Fout60, (zer (zer zen)), h87, hout60⟩
   ·
    rintro ev88 wl88 ⟨y_out64, hy88, aout64, pout64, cout64, Fout64, he88, h88, hout64⟩
    obtain ⟨ev88, rfl⟩ := he88.open
    subst hy88
    replace hR := hR065
    refine k20 _ _ ?_; clear k20
    refine W.seq_k fun _ k89 => W.regionT [(0, true), (1, true), (2, true), (3, true), (4, true), (5, true)] (by kernel_rfl) ?_
    refine Plan.move_slice rfl rfl <| Plan.move_int rfl rfl <| Plan.move_int rfl rfl ?_
    obtain ⟨hc90, hR⟩ := hR
    obtain ⟨hc91, hR⟩ := hR
    refine Plan.sl3O (m := n_3.toNat) h88 0 hout64 FKdf.sl24 rfl rfl ⟨_, congrArg (Value.int .i64) (Int.toNat_of_nonneg hc90).symm⟩ ⟨_, congrArg (Value.int .i64) (Int.toNat_of_nonneg hc90).symm⟩ hc91 rfl fun ho92 h92 => ?_
    simp only [zca, zna, zsz, zss] at h92
    refine Plan.assign_slice rfl rfl <| Plan.assign_int rfl rfl <| Plan.nil (k89 _ _ ?_); clear k89
    refine W.ret (finR_ret ?_)
    subst r
    refine RetOk.mk (.tmp_slice rfl (.tmp_int rfl .nil)) ?_
    exact ⟨aout64, pout64, (seg out64 0 n_3.toNat).length, n_3.toNat, Fout64, rfl, h92, ho92⟩
theorem kdf_Derive_ok {B : Nat} {w0 w : World} {L : List Rg} {iG0 : Nat} (hG0 : L[iG0]? = some ⟨some 0, 0, 8, fun q => VU .u32 (H256 q), false⟩) {iG1 : Nat} (hG1 : L[iG1]? = some ⟨some 1, 0, 64, fun q => VU .u32 (K256 q), false⟩) {salt1 : List Byte} {asalt1 : Option Addr} {nsalt1 csalt1 isalt1 : Nat} (hsalt1 : Bx L isalt1 asalt1 nsalt1 csalt1 salt1) {key2 : List Byte} {akey2 : Option Addr} {nkey2 ckey2 ikey2 : Nat} (hkey2 : Bx L ikey2 akey2 nkey2 ckey2 key2) {info3 : List Byte} {ainfo3 : Option Addr} {ninfo3 cinfo3 iinfo3 : Nat} (hinfo3 : Bx L iinfo3 ainfo3 ninfo3 cinfo3 info3) {n_4 : Int} {r : ((List Byte) × Nat)} (hR : kdf_Derive salt1 key2 info3 n_4 r) (HST : St B w0 (L) w) :
  Calls Tryd.prog 25 #[.slice asalt1 nsalt1 csalt1, .slice akey2 nkey2 ckey2, .slice ainfo3 ninfo3 cinfo3, .int .i64 n_4] w fun e w' => ∃ ay0 : Option Addr, ∃ py0 : Option Nat, ∃ ny0 : Nat, ∃ cy0 : Nat, ∃ Fy0 : Nat → Byte, e = .returned (.tuple #[.slice ay0 ny0 cy0, VN r.2]) ∧ St B w0 (⟨py0, 0, cy0, fun q => VU .u8 (Fy0 q), true⟩ :: L) w' ∧ Ow ay0 py0 ny0 cy0 Fy0 r.1 := by
 refine W.enter 20 Tryd.func25 rfl rfl rfl ?_
 unfold kdf_Derive at hR
 have esalt1 := hsalt1.hl; subst esalt1
 have ekey2 := hkey2.hl; subst ekey2
 have einfo3 := hinfo3.hl; subst einfo3
 refine W.seq_k fun _ k5 => W.regionT [(0, true), (1, true)] (by kernel_rfl) ?_
 refine Plan.assign_slice rfl rfl <| Plan.assign_int rfl rfl <| Plan.nil (k5 _ _ ?_); clear k5
 refine W.seq_k fun _ k6 => W.regionT [(0, true), (1, true), (2, false), (3, false), (4, false)] (by kernel_rfl) ?_
 refine Plan.move_slice rfl rfl <| Plan.move_slice rfl rfl ?_
 obtain ⟨x_8, hr7, hR⟩ := hR
 refine Plan.call (vs := [.slice asalt1 salt1.length csalt1, .slice akey2 key2.length ckey2]) rfl FKdf.call37 rfl (kdf_Extract_ok (iG0 := iG0 + 0) hG0 (iG1 := iG1 + 0) hG1 hsalt1 hkey2 hr7 HST) ?_
 rintro _ w9 ⟨rfl, h9⟩
 refine ⟨_, rfl, .inl ⟨PIn.keep PIn.nil h9, ?_⟩⟩
 refine Plan.alloc h9 rfl FKdf.z58 PIn.nil fun b10 w10 hb10 h10 => ?_
 simp only [rngs, Nat.zero_add, Nat.reduceAdd, zca, zna] at h10
 refine Plan.storeA (f' := fun q => VU .u8 (x_8 q)) h10 0 rfl rfl rfl rfl (fun _ _ => rfl) FKdf.sz58 rfl fun w11 h11 => ?_
 simp only [zca, zna, zsz, zss] at h11
 refine Plan.nil (k6 _ _ ?_); clear k6
 refine W.seq_k fun _ k12 => W.regionT [(0, true), (1, true), (2, true), (3, false), (4, true), (5, true), (6, true), (7, true)] (by kernel_rfl) ?_
 refine Plan.slArrO (lo := 0) (hi := 32) (m := 32) (c := 32) (o' := 0) FKdf.arr58 rfl rfl rfl rfl (by omega) (by omega) (by omega) (by omega) <| Plan.move_slice rfl rfl <| Plan.move_int rfl rfl ?_
 obtain ⟨x_14, x_15, hr13, hR⟩ := hR
 refine Plan.call (vs := [.slice (some ⟨b10, 0, none⟩) 32 32, .slice ainfo3 info3.length cinfo3, .int .i64 n_4]) rfl FKdf.call38 rfl (kdf_Expand_ok (iG0 := iG0 + 1) hG0 (iG1 := iG1 + 1) hG1 (by exact (Bx.arr0 (n := 32) (cc := 32) 0 rfl (by omega) (by omega))) (hinfo3.app [_]) hr13 h11) ?_
 rintro _ w21 ⟨ay0_16, py0_17, ny0_18, cy0_19, Fy0_20, rfl, h21, hf21_0⟩
 try dsimp only at hf21_0
 obtain rfl := hf21_0.hl
 refine ⟨_, rfl, .inl ⟨PIn.keep PIn.nil h21, ?_⟩⟩
 refine Plan.extract_slice rfl rfl rfl <| Plan.extract_int rfl rfl rfl <| Plan.assign_slice rfl rfl <| Plan.assign_int rfl rfl <| Plan.nil (k12 _ _ ?_); clear k12
 refine W.ret (finR_ret ?_)
 have h22 := St.pickT (C := [_, _]) h21 [0] (by decide)
 simp only [pick, zfc, zfn, zgz, zgs, zca, zna] at h22
 subst r
 refine RetOk.mk (.tmp_slice rfl (.tmp_int rfl .nil)) ?_
 exact ⟨ay0_16, py0_17, x_14.length, cy0_19, Fy0_20, rfl, h22, hf21_0⟩
end Go.Proofs.YthjkmhdgenmnoaaDoor
