/-
 WALKS of the package's functions, printed by this session's own program (auto.py).
-/
import Derived.Test.YtjclppnbbpnfnaaDoorProg
import Derived.Test.YtjclppnbbpnfnaaDoorEb
import Derived.Test.YtjclppnbbpnfnaaDoorRRef02
import Derived.Test.YtjclppnbbpnfnaaDoorEls
namespace Go.Proofs.YtjclppnbbpnfnaaDoor
set_option linter.unusedSimpArgs false
set_option linter.unusedVariables false
set_option linter.unusedSectionVars false
set_option maxRecDepth 8000
set_option maxHeartbeats 1000000
open Go Go.LW
theorem FRef02.mixed : Tryd.prog.follows .mixedOrders = true := by kernel_rfl
theorem FRef02.sc5 : scalarT Tryd.prog 5 = true := by kernel_rfl
theorem FRef02.sz5 : szT Tryd.prog 5 1 = true := by kernel_rfl
theorem FRef02.u67 : Tryd.prog.underlying 67 = some (.int .u64) := by kernel_rfl
theorem FRef02.some5 : (Tryd.prog.underlying 5).isSome = true := by kernel_rfl
theorem FRef02.some26 : (Tryd.prog.underlying 26).isSome = true := by kernel_rfl
theorem FRef02.sc67 : scalarT Tryd.prog 67 = true := by kernel_rfl
theorem FRef02.sz67 : szT Tryd.prog 67 1 = true := by kernel_rfl
theorem FRef02.u5 : Tryd.prog.underlying 5 = some (.int .u8) := by kernel_rfl
theorem FRef02.some67 : (Tryd.prog.underlying 67).isSome = true := by kernel_rfl
theorem FRef02.z31 : zeroIs Tryd.prog 31 [(64, fun _ => VU .u8 0#8)] := zeroIs_agg (by kernel_rfl)
theorem FRef02.sc26 : scalarT Tryd.prog 26 = true := by kernel_rfl
theorem FRef02.zv5 : (Tryd.prog.info? 5).bind (·.zero) = some (VU .u8 0#8) := by kernel_rfl
theorem FRef02.slu40 : Tryd.prog.underlying 40 = some (.slice 5) := by kernel_rfl
theorem FRef02.isl40 : ∃ el, Tryd.prog.underlying 40 = some (.slice el) := ⟨5, by kernel_rfl⟩
theorem FRef02.some3 : (Tryd.prog.underlying 3).isSome = true := by kernel_rfl
theorem FRef02.sl40 : slB Tryd.prog 40 1 = true := by kernel_rfl
theorem FRef02.el40 : elD Tryd.prog 40 = some (1, 1, some (VU .u8 0#8)) := by kernel_rfl
theorem FRef02.agg118 : aggT Tryd.prog 118 8 = true := by kernel_rfl
theorem FRef02.arr31 : arrB Tryd.prog 31 64 1 = true := by kernel_rfl
theorem FRef02.agg31 : aggT Tryd.prog 31 64 = true := by kernel_rfl
theorem FRef02.z118 : zeroIs Tryd.prog 118 [(8, fun _ => VU .u32 0#32)] := zeroIs_agg (by kernel_rfl)
theorem FRef02.u26 : Tryd.prog.underlying 26 = some (.int .u32) := by kernel_rfl
theorem FRef02.sz26 : szT Tryd.prog 26 1 = true := by kernel_rfl
theorem FRef02.arr118 : arrB Tryd.prog 118 8 1 = true := by kernel_rfl
theorem FRef02.sz118 : szT Tryd.prog 118 8 = true := by kernel_rfl
theorem FRef02.sz31 : szT Tryd.prog 31 64 = true := by kernel_rfl
theorem FRef02.z22 : zeroIs Tryd.prog 22 [(32, fun _ => VU .u8 0#8)] := zeroIs_agg (by kernel_rfl)
theorem FRef02.z143 : zeroIs Tryd.prog 143 [(8, fun _ => VU .u8 0#8)] := zeroIs_agg (by kernel_rfl)
theorem FRef02.arr143 : arrB Tryd.prog 143 8 1 = true := by kernel_rfl
theorem FRef02.call78 : callB Tryd.prog 78 = true := by kernel_rfl
theorem FRef02.arr144 : arrB Tryd.prog 144 8 1 = true := by kernel_rfl
theorem FRef02.call79 : callB Tryd.prog 79 = true := by kernel_rfl
theorem FRef02.call81 : callB Tryd.prog 81 = true := by kernel_rfl
theorem FRef02.z145 : zeroIs Tryd.prog 145 [(64, fun _ => VU .u64 0#64)] := zeroIs_agg (by kernel_rfl)
theorem FRef02.arr145 : arrB Tryd.prog 145 64 1 = true := by kernel_rfl
theorem FRef02.call84 : callB Tryd.prog 84 = true := by kernel_rfl
theorem FRef02.call85 : callB Tryd.prog 85 = true := by kernel_rfl
theorem FRef02.agg145 : aggT Tryd.prog 145 64 = true := by kernel_rfl
theorem FRef02.sz145 : szT Tryd.prog 145 64 = true := by kernel_rfl
theorem FRef02.call83 : callB Tryd.prog 83 = true := by kernel_rfl
theorem FRef02.z144 : zeroIs Tryd.prog 144 [(8, fun _ => VU .u64 0#64)] := zeroIs_agg (by kernel_rfl)
theorem FRef02.call80 : callB Tryd.prog 80 = true := by kernel_rfl
theorem FRef02.arr22 : arrB Tryd.prog 22 32 1 = true := by kernel_rfl
theorem FRef02.agg22 : aggT Tryd.prog 22 32 = true := by kernel_rfl
theorem FRef02.sz22 : szT Tryd.prog 22 32 = true := by kernel_rfl
theorem FRef02.call82 : callB Tryd.prog 82 = true := by kernel_rfl
theorem letheref02_padded_ok {B : Nat} {w0 w : World} {L : List Rg} {m1 : List Byte} {am1 : Option Addr} {nm1 cm1 im1 : Nat} (hm1 : Bx L im1 am1 nm1 cm1 m1) {r : (List Byte)} (hR : letheref02_padded m1 r) (HST : St B w0 (L) w) :
  Calls Tryd.prog 78 #[.slice am1 nm1 cm1] w fun e w' => ∃ ay0 : Option Addr, ∃ py0 : Option Nat, ∃ ny0 : Nat, ∃ cy0 : Nat, ∃ Fy0 : Nat → Byte, e = .returned (.slice ay0 ny0 cy0) ∧ St B w0 (⟨py0, 0, cy0, fun q => VU .u8 (Fy0 q), true⟩ :: L) w' ∧ Ow ay0 py0 ny0 cy0 Fy0 r := by
 refine W.enter 53 Tryd.func78 rfl rfl rfl ?_
 unfold letheref02_padded at hR
 have em1 := hm1.hl; subst em1
 refine W.seq_k fun _ k2 => W.regionT [(0, true)] (by kernel_rfl) ?_
 refine Plan.assign_slice rfl rfl <| Plan.nil (k2 _ _ ?_); clear k2
 refine W.seq_k fun _ k3 => W.regionT [(0, true), (1, false), (2, true)] (by kernel_rfl) ?_
 refine Plan.move_slice rfl rfl ?_
 have h4 := HST.nilR
 obtain ⟨hc6, hR⟩ := hR
 refine Plan.appendO (X := ([] : List Byte)) (Y := m1) h4 0 Ow.nil FRef02.el40 FRef02.sl40 rfl rfl rfl rfl (hm1.app [_]) hc6 (fun _ => EffO.keep PIn.nil) fun a5 pb5 cap5 F5 w5 ho5 h5 => ?_
 simp only [zca, zna, zsz, zss] at h5
 refine Plan.assign_slice rfl rfl <| Plan.nil (k3 _ _ ?_); clear k3
 refine W.seq_k fun _ k7 => W.regionT [(0, true), (1, false), (2, false), (3, true)] (by kernel_rfl) ?_
 refine Plan.move_slice rfl rfl ?_
 refine Plan.buildSlice h5 (ps := [(1, fun q => VU .u8 (lit ([128#8] : List Byte) q))]) FRef02.slu40 FRef02.sz5 FRef02.zv5 (by decide) (by decide) rfl rfl (by kernel_rfl) (EffO.keep PIn.nil) fun b8 w8 hb8 h8 => ?_
 simp only [rngs, List.cons_append, List.nil_append] at h8
 have ho8 : Ow (some ⟨b8, 0, none⟩) (some b8) ([128#8] : List Byte).length 1 (lit ([128#8] : List Byte)) ([128#8] : List Byte) := ⟨.inr ⟨b8, rfl, rfl⟩, Nat.le_refl _, rfl, fun q _ => rfl⟩
 obtain ⟨hc10, hR⟩ := hR
 refine Plan.appendO (X := (([] : List Byte) ++ m1)) (Y := ([128#8] : List Byte)) h8 1 ho5 FRef02.el40 FRef02.sl40 rfl rfl rfl rfl (ho8.bx 0 rfl) hc10 (fun _ => EffO.keep PIn.nil) fun a9 pb9 cap9 F9 w9 ho9 h9 => ?_
 simp only [zca, zna, zsz, zss] at h9
 refine Plan.assign_slice rfl rfl <| Plan.nil (k7 _ _ ?_); clear k7
 refine W.seq_k fun _ k11 => ?_
 obtain ⟨out27, hI28, hR028⟩ := hR
 refine W.cutN (fun e w => ∃ y_out27 : List Byte, out27 = y_out27 ∧ ∃ aout27 : Option Addr, ∃ pout27 : Option Nat, ∃ cout27 : Nat, ∃ Fout27 : Nat → Byte, EnvHas e [(0, .slice am1 m1.length cm1), (3, .slice aout27 y_out27.length cout27)] ∧ St B w0 (⟨pout27, 0, cout27, fun q => VU .u8 (Fout27 q), true⟩ :: L) w ∧ Ow aout27 pout27 y_out27.length cout27 Fout27 y_out27) ?_ ?_
 ·
  refine W.block ?_
  have h29 := St.pickT (C := [_, _]) h9 [1] (by decide)
  simp only [pick, zfc, zfn, zgz, zgs, zca, zna] at h29
  refine W.iter hI28 (fun (s28 : (List Byte)) e w => ∃ aout26 : Option Addr, ∃ pout26 : Option Nat, ∃ cout26 : Nat, ∃ Fout26 : Nat → Byte, EnvHas e [(0, .slice am1 m1.length cm1), (3, .slice aout26 s28.length cout26)] ∧ St B w0 (⟨pout26, 0, cout26, fun q => VU .u8 (Fout26 q), true⟩ :: L) w ∧ Ow aout26 pout26 s28.length cout26 Fout26 s28) ⟨a9, pb9, cap9, F9, (zer (zer zen)), h29, ho9⟩ ?_
  rintro out26 o28 hR hx28 ev30 wl30 ⟨aout26, pout26, cout26, Fout26, he30, h30, hout26⟩
  obtain ⟨ev30, rfl⟩ := he30.open
  unfold letheref02_padded_l0 at hR
  refine W.seq_k fun _ k31 => W.seq_k fun _ k32 => ?_
  refine W.regionT [(0, true), (1, true), (2, true), (3, true)] (by kernel_rfl) ?_
  refine Plan.move_slice rfl rfl <| Plan.len FRef02.isl40 rfl rfl <| Plan.remN (a := out26.length) (b := 64) rfl rfl rfl (by omega) <| Plan.cmpP (a := ((((out26.length % 64) : Nat) : Int) : Int)) (b := (56 : Int)) (p := (out26.length % 64) ≠ 56) rfl rfl rfl rfl icmp_neN <| Plan.nil (k32 _ _ ?_); clear k32
  by_cases hc33 : (out26.length % 64) ≠ 56
  ·
   replace hR := ifT hR hc33
   refine W.condT (congrArg Value.bool (decide_eq_true hc33)) ?_
   refine W.skip ?_
   refine k31 _ _ ?_; clear k31
   refine W.block ?_
   refine W.regionT [(0, true), (1, false), (2, false), (3, true)] (by kernel_rfl) ?_
   refine Plan.move_slice rfl rfl ?_
   refine Plan.buildSlice h30 (ps := [(1, fun q => VU .u8 (lit ([0#8] : List Byte) q))]) FRef02.slu40 FRef02.sz5 FRef02.zv5 (by decide) (by decide) rfl rfl (by kernel_rfl) (EffO.keep PIn.nil) fun b34 w34 hb34 h34 => ?_
   simp only [rngs, List.cons_append, List.nil_append] at h34
   have ho34 : Ow (some ⟨b34, 0, none⟩) (some b34) ([0#8] : List Byte).length 1 (lit ([0#8] : List Byte)) ([0#8] : List Byte) := ⟨.inr ⟨b34, rfl, rfl⟩, Nat.le_refl _, rfl, fun q _ => rfl⟩
   obtain ⟨hc36, hR⟩ := hR
   refine Plan.appendO (X := out26) (Y := ([0#8] : List Byte)) h34 1 hout26 FRef02.el40 FRef02.sl40 rfl rfl rfl rfl (ho34.bx 0 rfl) hc36 (fun _ => EffO.keep PIn.nil) fun a35 pb35 cap35 F35 w35 ho35 h35 => ?_
   simp only [zca, zna, zsz, zss] at h35
   refine Plan.assign_slice rfl rfl <| Plan.nil ?_
   refine blockR_norm ?_
   have h37 := St.pickT (C := [_, _]) h35 [1] (by decide)
   simp only [pick, zfc, zfn, zgz, zgs, zca, zna] at h37
   exact iterR_norm ⟨_, hR, a35, pb35, cap35, F35, (zer (zer zen)), h37, ho35⟩
  ·
   replace hR := ifF hR hc33
   refine W.condF (congrArg Value.bool (decide_eq_false hc33)) ?_
   refine W.exit (thenR_exit (iterR_exit (blockR_here ?_)))
   exact ⟨out26, (hx28 _ hR).symm, aout26, pout26, cout26, Fout26, (zer (zer zen)), h30, hout26⟩
 ·
  rintro ev38 wl38 ⟨y_out27, hy38, aout27, pout27, cout27, Fout27, he38, h38, hout27⟩
  obtain ⟨ev38, rfl⟩ := he38.open
  subst hy38
  replace hR := hR028
  refine k11 _ _ ?_; clear k11
  refine W.seq_k fun _ k39 => W.regionT [(0, true), (1, true), (2, true), (3, true), (4, true)] (by kernel_rfl) ?_
  refine Plan.move_slice rfl rfl <| Plan.len FRef02.isl40 rfl rfl <| Plan.convNU .u64 (a := m1.length) FRef02.u67 FRef02.some3 rfl rfl <| Plan.mulU .u64 (X := (BitVec.ofNat 64 m1.length)) (Y := 8#64) rfl rfl rfl <| Plan.assign_int rfl rfl <| Plan.nil (k39 _ _ ?_); clear k39
  refine W.seq_k fun _ k40 => W.regionT [(0, false)] (by kernel_rfl) ?_
  refine Plan.alloc h38 rfl FRef02.z143 PIn.nil fun b41 w41 hb41 h41 => ?_
  simp only [rngs, Nat.zero_add, Nat.reduceAdd, zca, zna] at h41
  refine Plan.nil (k40 _ _ ?_); clear k40
  refine W.seq_k fun _ k42 => W.seq_k fun _ k43 => ?_
  refine W.regionT [(0, true)] (by kernel_rfl) ?_
  refine Plan.assign_int rfl rfl <| Plan.nil (k43 _ _ ?_); clear k43
  obtain ⟨out79, m80, hI81, hR081⟩ := hR
  refine W.cutN (fun e w => ∃ y_out79 : List Byte, ∃ y_m80 : Nat → BitVec 8, (out79, m80) = (y_out79, y_m80) ∧ ∃ aout79 : Option Addr, ∃ pout79 : Option Nat, ∃ cout79 : Nat, ∃ Fout79 : Nat → Byte, EnvHas e [(3, .slice aout79 out27.length cout79), (5, .pointer (some ⟨b41, 0, none⟩))] ∧ St B w0 (⟨pout79, 0, cout79, fun q => VU .u8 (Fout79 q), true⟩ :: ⟨some b41, 0, 8, fun q => VU .u8 (y_m80 q), true⟩ :: L) w ∧ Ow aout79 pout79 out27.length cout79 Fout79 y_out79) ?_ ?_
  ·
   refine W.block ?_
   have h82 := St.pickT (C := [_, _]) h41 [1, 0] (by decide)
   simp only [pick, zfc, zfn, zgz, zgs, zca, zna] at h82
   refine W.iter hI81 (fun (s81 : ((List Byte) × (BitVec 64) × Int × (Nat → BitVec 8))) e w => ∃ aout75 : Option Addr, ∃ pout75 : Option Nat, ∃ cout75 : Nat, ∃ Fout75 : Nat → Byte, EnvHas e [(3, .slice aout75 out27.length cout75), (4, VU .u64 s81.2.1), (5, .pointer (some ⟨b41, 0, none⟩)), (6, .int .i64 s81.2.2.1)] ∧ St B w0 (⟨pout75, 0, cout75, fun q => VU .u8 (Fout75 q), true⟩ :: ⟨some b41, 0, 8, fun q => VU .u8 (s81.2.2.2 q), true⟩ :: L) w ∧ Ow aout75 pout75 out27.length cout75 Fout75 s81.1) ⟨aout27, pout27, cout27, Fout27, (zer (zer (zer (zer zen)))), h82, hout27⟩ ?_
   rintro ⟨out75, n_76, i_77, m78⟩ o81 hR hx81 ev83 wl83 ⟨aout75, pout75, cout75, Fout75, he83, h83, hout75⟩
   obtain ⟨ev83, rfl⟩ := he83.open
   unfold letheref02_padded_l1 at hR
   refine W.seq_k fun _ k84 => W.seq_k fun _ k85 => ?_
   refine W.regionT [(0, true), (1, true)] (by kernel_rfl) ?_
   refine Plan.move_int rfl rfl <| Plan.cmpP (a := (i_77 : Int)) (b := (0 : Int)) (p := 0 ≤ i_77) rfl rfl rfl rfl icmp_ge <| Plan.nil (k85 _ _ ?_); clear k85
   by_cases hc86 : 0 ≤ i_77
   ·
    replace hR := ifT hR hc86
    refine W.condT (congrArg Value.bool (decide_eq_true hc86)) ?_
    refine W.skip ?_
    refine k84 _ _ ?_; clear k84
    refine W.seq_k fun _ k87 => ?_
    refine W.block ?_
    refine W.seq_k fun _ k88 => W.regionT [(0, true), (1, true), (2, true), (3, true), (4, true), (5, false)] (by kernel_rfl) ?_
    refine Plan.move_int rfl rfl <| Plan.move_int rfl rfl <| Plan.remU .u64 (X := n_76) (Y := 256#64) rfl rfl rfl (by decide) <| Plan.convUU .u8 (X := (n_76 % (256#64))) FRef02.u5 FRef02.some67 rfl rfl ?_
    obtain ⟨hc89, hR⟩ := hR
    refine Plan.idxArr1 (j := i_77.toNat) FRef02.arr143 rfl rfl (congrArg (Value.int .i64) (Int.toNat_of_nonneg hc89.1).symm) (by omega) ?_
    refine Plan.storeU (j := i_77.toNat) (X := ((n_76 % (256#64)).setWidth 8)) h83 1 rfl rfl rfl rfl (by omega) FRef02.sz5 rfl fun w90 h90 => ?_
    simp only [zca, zna, zsz, zss] at h90
    refine Plan.nil (k88 _ _ ?_); clear k88
    refine W.regionT [(0, true), (1, true), (2, true)] (by kernel_rfl) ?_
    refine Plan.move_int rfl rfl <| Plan.quoU .u64 (X := n_76) (Y := 256#64) rfl rfl rfl (by decide) <| Plan.assign_int rfl rfl <| Plan.nil ?_
    refine blockR_norm ?_
    refine k87 _ _ ?_; clear k87
    refine W.regionT [(0, true), (1, true), (2, true)] (by kernel_rfl) ?_
    refine Plan.move_int rfl rfl ?_
    obtain ⟨hc91, hR⟩ := hR
    refine Plan.subI (a := i_77) (b := 1) rfl rfl rfl (by omega) <| Plan.assign_int rfl rfl <| Plan.nil ?_
    exact iterR_norm ⟨_, hR, aout75, pout75, cout75, Fout75, (zer (zer (zer (zer zen)))), h90, hout75⟩
   ·
    replace hR := ifF hR hc86
    refine W.condF (congrArg Value.bool (decide_eq_false hc86)) ?_
    refine W.exit (thenR_exit (iterR_exit (blockR_here ?_)))
    exact ⟨out75, m78, (hx81 _ hR).symm, aout75, pout75, cout75, Fout75, (zer (zer zen)), h83, hout75⟩
  ·
   rintro ev92 wl92 ⟨y_out79, y_m80, hy92, aout79, pout79, cout79, Fout79, he92, h92, hout79⟩
   obtain ⟨ev92, rfl⟩ := he92.open
   cases hy92
   replace hR := hR081
   refine k42 _ _ ?_; clear k42
   refine W.seq_k fun _ k93 => W.regionT [(0, true), (1, true), (2, true), (3, true), (4, true), (5, true), (6, true), (7, true), (8, true), (9, true), (10, true), (11, true), (12, true), (13, true), (14, true), (15, true), (16, true), (17, false), (18, false), (19, true)] (by kernel_rfl) ?_
   refine Plan.move_slice rfl rfl <| Plan.idxArr1 (j := 0) FRef02.arr143 rfl rfl rfl (by omega) <| Plan.load1 (j := 0) h92 1 rfl rfl rfl (by omega) FRef02.sc5 <| Plan.idxArr1 (j := 1) FRef02.arr143 rfl rfl rfl (by omega) <| Plan.load1 (j := 1) h92 1 rfl rfl rfl (by omega) FRef02.sc5 <| Plan.idxArr1 (j := 2) FRef02.arr143 rfl rfl rfl (by omega) <| Plan.load1 (j := 2) h92 1 rfl rfl rfl (by omega) FRef02.sc5 <| Plan.idxArr1 (j := 3) FRef02.arr143 rfl rfl rfl (by omega) ?_
   refine Plan.load1 (j := 3) h92 1 rfl rfl rfl (by omega) FRef02.sc5 <| Plan.idxArr1 (j := 4) FRef02.arr143 rfl rfl rfl (by omega) <| Plan.load1 (j := 4) h92 1 rfl rfl rfl (by omega) FRef02.sc5 <| Plan.idxArr1 (j := 5) FRef02.arr143 rfl rfl rfl (by omega) <| Plan.load1 (j := 5) h92 1 rfl rfl rfl (by omega) FRef02.sc5 <| Plan.idxArr1 (j := 6) FRef02.arr143 rfl rfl rfl (by omega) <| Plan.load1 (j := 6) h92 1 rfl rfl rfl (by omega) FRef02.sc5 <| Plan.idxArr1 (j := 7) FRef02.arr143 rfl rfl rfl (by omega) ?_
   refine Plan.load1 (j := 7) h92 1 rfl rfl rfl (by omega) FRef02.sc5 ?_
   refine Plan.buildSlice h92 (ps := [(8, fun q => VU .u8 (lit ([(m80 0), (m80 1), (m80 2), (m80 3), (m80 4), (m80 5), (m80 6), (m80 7)] : List Byte) q))]) FRef02.slu40 FRef02.sz5 FRef02.zv5 (by decide) (by decide) rfl rfl rfl (EffO.wait rfl) fun b94 w94 hb94 h94 => ?_
   simp only [rngs, List.cons_append, List.nil_append] at h94
   have ho94 : Ow (some ⟨b94, 0, none⟩) (some b94) ([(m80 0), (m80 1), (m80 2), (m80 3), (m80 4), (m80 5), (m80 6), (m80 7)] : List Byte).length 8 (lit ([(m80 0), (m80 1), (m80 2), (m80 3), (m80 4), (m80 5), (m80 6), (m80 7)] : List Byte)) ([(m80 0), (m80 1), (m80 2), (m80 3), (m80 4), (m80 5), (m80 6), (m80 7)] : List Byte) := ⟨.inr ⟨b94, rfl, rfl⟩, Nat.le_refl _, rfl, fun q _ => rfl⟩
   obtain ⟨hc96, hR⟩ := hR
   refine Plan.appendO (X := out79) (Y := ([(m80 0), (m80 1), (m80 2), (m80 3), (m80 4), (m80 5), (m80 6), (m80 7)] : List Byte)) h94 1 hout79 FRef02.el40 FRef02.sl40 rfl rfl rfl rfl (ho94.bx 0 rfl) hc96 (fun _ => EffO.keep PIn.nil) fun a95 pb95 cap95 F95 w95 ho95 h95 => ?_
   simp only [zca, zna, zsz, zss] at h95
   refine Plan.assign_slice rfl rfl <| Plan.nil (k93 _ _ ?_); clear k93
   refine W.ret (finR_ret ?_)
   have h97 := St.pickT (C := [_, _, _]) h95 [1] (by decide)
   simp only [pick, zfc, zfn, zgz, zgs, zca, zna] at h97
   subst r
   refine RetOk.mk (.tmp_slice rfl .nil) ?_
   exact ⟨a95, pb95, (out79 ++ ([(m80 0), (m80 1), (m80 2), (m80 3), (m80 4), (m80 5), (m80 6), (m80 7)] : List Byte)).length, cap95, F95, rfl, h97, ho95⟩
theorem letheref02_Begin_ok {B : Nat} {w0 w : World} {L : List Rg} {iG4 : Nat} (hG4 : L[iG4]? = some ⟨some 4, 0, 8, fun q => VU .u64 (H64 q), false⟩)  {r : (Nat → BitVec 32)} (hR : letheref02_Begin r) (HST : St B w0 (L) w) :
  Calls Tryd.prog 79 #[] w fun e w' => e = .returned (AG [(8, fun q => VU .u32 (r q))]) ∧ St B w0 (L) w' := by
 refine W.enter 14 Tryd.func79 rfl rfl rfl ?_
 unfold letheref02_Begin at hR
 refine W.seq_k fun _ k1 => W.regionT [(0, false)] (by kernel_rfl) ?_
 refine Plan.alloc HST rfl FRef02.z118 PIn.nil fun b2 w2 hb2 h2 => ?_
 simp only [rngs, Nat.zero_add, Nat.reduceAdd, zca, zna] at h2
 refine Plan.nil (k1 _ _ ?_); clear k1
 refine W.seq_k fun _ k3 => W.regionT [(0, false)] (by kernel_rfl) ?_
 refine Plan.alloc h2 rfl FRef02.z118 PIn.nil fun b4 w4 hb4 h4 => ?_
 simp only [rngs, Nat.zero_add, Nat.reduceAdd, zca, zna] at h4
 refine Plan.nil (k3 _ _ ?_); clear k3
 refine W.seq_k fun _ k5 => W.seq_k fun _ k6 => ?_
 refine W.regionT [(0, true)] (by kernel_rfl) ?_
 refine Plan.assign_int rfl rfl <| Plan.nil (k6 _ _ ?_); clear k6
 obtain ⟨m21, hI22, hR022⟩ := hR
 refine W.cutN (fun e w => ∃ y_m21 : Nat → BitVec 32, m21 = y_m21 ∧ EnvHas e [(0, .pointer (some ⟨b2, 0, none⟩)), (1, .pointer (some ⟨b4, 0, none⟩))] ∧ St B w0 (⟨some b4, 0, 8, fun q => VU .u32 (y_m21 q), true⟩ :: ⟨some b2, 0, 8, fun q => VU .u32 ((fun _ => 0#32) q), true⟩ :: L) w) ?_ ?_
 ·
  refine W.block ?_
  refine W.iter hI22 (fun (s22 : (Nat × (Nat → BitVec 32))) e w => EnvHas e [(0, .pointer (some ⟨b2, 0, none⟩)), (1, .pointer (some ⟨b4, 0, none⟩)), (2, VN s22.1)] ∧ St B w0 (⟨some b4, 0, 8, fun q => VU .u32 (s22.2 q), true⟩ :: ⟨some b2, 0, 8, fun q => VU .u32 ((fun _ => 0#32) q), true⟩ :: L) w) ⟨(zer (zer (zer zen))), h4⟩ ?_
  rintro ⟨i_19, m20⟩ o22 hR hx22 ev23 wl23 ⟨he23, h23⟩
  obtain ⟨ev23, rfl⟩ := he23.open
  unfold letheref02_Begin_l0 at hR
  refine W.seq_k fun _ k24 => W.seq_k fun _ k25 => ?_
  refine W.regionT [(0, true), (1, true)] (by kernel_rfl) ?_
  refine Plan.move_int rfl rfl <| Plan.cmpP (a := (((i_19 : Nat) : Int) : Int)) (b := (8 : Int)) (p := i_19 < 8) rfl rfl rfl rfl icmp_ltN <| Plan.nil (k25 _ _ ?_); clear k25
  by_cases hc26 : i_19 < 8
  ·
   replace hR := ifT hR hc26
   refine W.condT (congrArg Value.bool (decide_eq_true hc26)) ?_
   refine W.skip ?_
   refine k24 _ _ ?_; clear k24
   refine W.seq_k fun _ k27 => ?_
   refine W.block ?_
   refine W.regionT [(0, true), (1, true), (2, true), (3, true), (4, true), (5, true), (6, false)] (by kernel_rfl) ?_
   refine Plan.move_int rfl rfl <| Plan.move_int rfl rfl <| Plan.idxArr1 (j := i_19) FRef02.arr144 rfl rfl rfl (by omega) <| Plan.load1 (j := i_19) h23 (iG4 + 2) rfl rfl hG4 (by omega) FRef02.sc67 <| Plan.convUU .u32 (X := (H64 i_19)) FRef02.u26 FRef02.some67 rfl rfl <| Plan.idxArr1 (j := i_19) FRef02.arr118 rfl rfl rfl (by omega) ?_
   refine Plan.storeU (j := i_19) (X := ((H64 i_19).setWidth 32)) h23 0 rfl rfl rfl rfl (by omega) FRef02.sz26 rfl fun w28 h28 => ?_
   simp only [zca, zna, zsz, zss] at h28
   refine Plan.nil ?_
   refine blockR_norm ?_
   refine k27 _ _ ?_; clear k27
   refine W.regionT [(0, true), (1, true), (2, true)] (by kernel_rfl) ?_
   refine Plan.move_int rfl rfl <| Plan.addN (a := i_19) (b := 1) rfl rfl rfl (by omega) <| Plan.assign_int rfl rfl <| Plan.nil ?_
   exact iterR_norm ⟨_, hR, (zer (zer (zer zen))), h28⟩
  ·
   replace hR := ifF hR hc26
   refine W.condF (congrArg Value.bool (decide_eq_false hc26)) ?_
   refine W.exit (thenR_exit (iterR_exit (blockR_here ?_)))
   exact ⟨m20, (hx22 _ hR).symm, (zer (zer zen)), h23⟩
 ·
  rintro ev29 wl29 ⟨y_m21, hy29, he29, h29⟩
  obtain ⟨ev29, rfl⟩ := he29.open
  subst hy29
  replace hR := hR022
  refine k5 _ _ ?_; clear k5
  refine W.seq_k fun _ k30 => W.regionT [(0, true), (1, false)] (by kernel_rfl) ?_
  refine Plan.loadA1 h29 0 rfl rfl rfl FRef02.agg118 ?_
  refine Plan.storeA (f' := fun q => VU .u32 (m21 q)) h29 1 rfl rfl rfl rfl (fun _ _ => rfl) FRef02.sz118 rfl fun w31 h31 => ?_
  simp only [zca, zna, zsz, zss] at h31
  refine Plan.nil (k30 _ _ ?_); clear k30
  refine W.ret (finR_ret ?_)
  have h32 := St.pickT (C := [_, _]) h31 [] (by decide)
  simp only [pick, zfc, zfn, zgz, zgs, zca, zna] at h32
  subst r
  refine RetOk.mk (.agg h31 rfl (.cons 1 rfl .nil) FRef02.agg118 .nil) ?_
  exact ⟨rfl, h32⟩
theorem letheref02_At_ok {B : Nat} {w0 w : World} {L : List Rg} {b1 : List Byte} {ab1 : Option Addr} {nb1 cb1 ib1 : Nat} (hb1 : Bx L ib1 ab1 nb1 cb1 b1) {i_2 : Int} {r : (Nat → BitVec 8)} (hR : letheref02_At b1 i_2 r) (HST : St B w0 (L) w) :
  Calls Tryd.prog 81 #[.slice ab1 nb1 cb1, .int .i64 i_2] w fun e w' => e = .returned (AG [(64, fun q => VU .u8 (r q))]) ∧ St B w0 (L) w' := by
 refine W.enter 21 Tryd.func81 rfl rfl rfl ?_
 unfold letheref02_At at hR
 have eb1 := hb1.hl; subst eb1
 refine W.seq_k fun _ k3 => W.regionT [(0, false)] (by kernel_rfl) ?_
 refine Plan.alloc HST rfl FRef02.z31 PIn.nil fun b4 w4 hb4 h4 => ?_
 simp only [rngs, Nat.zero_add, Nat.reduceAdd, zca, zna] at h4
 refine Plan.nil (k3 _ _ ?_); clear k3
 refine W.seq_k fun _ k5 => W.regionT [(0, false)] (by kernel_rfl) ?_
 refine Plan.alloc h4 rfl FRef02.z31 PIn.nil fun b6 w6 hb6 h6 => ?_
 simp only [rngs, Nat.zero_add, Nat.reduceAdd, zca, zna] at h6
 refine Plan.nil (k5 _ _ ?_); clear k5
 refine W.seq_k fun _ k7 => W.seq_k fun _ k8 => ?_
 refine W.regionT [(0, true)] (by kernel_rfl) ?_
 refine Plan.assign_int rfl rfl <| Plan.nil (k8 _ _ ?_); clear k8
 obtain ⟨m31, hI32, hR032⟩ := hR
 refine W.cutN (fun e w => ∃ y_m31 : Nat → BitVec 8, m31 = y_m31 ∧ EnvHas e [(4, .pointer (some ⟨b4, 0, none⟩)), (5, .pointer (some ⟨b6, 0, none⟩))] ∧ St B w0 (⟨some b6, 0, 64, fun q => VU .u8 (y_m31 q), true⟩ :: ⟨some b4, 0, 64, fun q => VU .u8 ((fun _ => 0#8) q), true⟩ :: L) w) ?_ ?_
 ·
  refine W.block ?_
  refine W.iter hI32 (fun (s32 : (Nat × (Nat → BitVec 8))) e w => EnvHas e [(0, .slice ab1 b1.length cb1), (1, .int .i64 i_2), (4, .pointer (some ⟨b4, 0, none⟩)), (5, .pointer (some ⟨b6, 0, none⟩)), (6, VN s32.1)] ∧ St B w0 (⟨some b6, 0, 64, fun q => VU .u8 (s32.2 q), true⟩ :: ⟨some b4, 0, 64, fun q => VU .u8 ((fun _ => 0#8) q), true⟩ :: L) w) ⟨(zer (zer (zer (zer (zer zen))))), h6⟩ ?_
  rintro ⟨k29, m30⟩ o32 hR hx32 ev33 wl33 ⟨he33, h33⟩
  obtain ⟨ev33, rfl⟩ := he33.open
  unfold letheref02_At_l0 at hR
  refine W.seq_k fun _ k34 => W.seq_k fun _ k35 => ?_
  refine W.regionT [(0, true), (1, true)] (by kernel_rfl) ?_
  refine Plan.move_int rfl rfl <| Plan.cmpP (a := (((k29 : Nat) : Int) : Int)) (b := (64 : Int)) (p := k29 < 64) rfl rfl rfl rfl icmp_ltN <| Plan.nil (k35 _ _ ?_); clear k35
  by_cases hc36 : k29 < 64
  ·
   replace hR := ifT hR hc36
   refine W.condT (congrArg Value.bool (decide_eq_true hc36)) ?_
   refine W.skip ?_
   refine k34 _ _ ?_; clear k34
   refine W.seq_k fun _ k37 => ?_
   refine W.block ?_
   refine W.regionT [(0, true), (1, true), (2, true), (3, true), (4, true), (5, true), (6, true), (7, true), (8, true), (9, false)] (by kernel_rfl) ?_
   refine Plan.move_int rfl rfl <| Plan.move_slice rfl rfl <| Plan.move_int rfl rfl ?_
   obtain ⟨hc38, hR⟩ := hR
   refine Plan.mulI (a := 64) (b := i_2) rfl rfl rfl (by omega) <| Plan.move_int rfl rfl ?_
   obtain ⟨hc39, hR⟩ := hR
   refine Plan.addI (a := (64 * i_2)) (b := ((k29 : Nat) : Int)) rfl rfl rfl (by omega) ?_
   obtain ⟨hc40, hR⟩ := hR
   refine Plan.idxVS (j := ((64 * i_2) + ((k29 : Nat) : Int)).toNat) h33 (hb1.app [_, _]) FRef02.sl40 rfl rfl (congrArg (Value.int .i64) (Int.toNat_of_nonneg hc40.1).symm) (toNat_lt hc40.1 hc40.2) ?_
   refine Plan.loadV (j := ((64 * i_2) + ((k29 : Nat) : Int)).toNat) h33 (hb1.app [_, _]) rfl rfl (toNat_lt hc40.1 hc40.2) FRef02.sc5 fun r41 hr41 => ?_
   refine Plan.idxArr1 (j := k29) FRef02.arr31 rfl rfl rfl (by omega) ?_
   refine Plan.storeU (j := k29) (X := (lit b1 (((64 * i_2) + ((k29 : Nat) : Int)).toNat))) h33 0 rfl rfl rfl rfl (by omega) FRef02.sz5 rfl fun w42 h42 => ?_
   simp only [zca, zna, zsz, zss] at h42
   refine Plan.nil ?_
   refine blockR_norm ?_
   refine k37 _ _ ?_; clear k37
   refine W.regionT [(0, true), (1, true), (2, true)] (by kernel_rfl) ?_
   refine Plan.move_int rfl rfl <| Plan.addN (a := k29) (b := 1) rfl rfl rfl (by omega) <| Plan.assign_int rfl rfl <| Plan.nil ?_
   exact iterR_norm ⟨_, hR, (zer (zer (zer (zer (zer zen))))), h42⟩
  ·
   replace hR := ifF hR hc36
   refine W.condF (congrArg Value.bool (decide_eq_false hc36)) ?_
   refine W.exit (thenR_exit (iterR_exit (blockR_here ?_)))
   exact ⟨m30, (hx32 _ hR).symm, (zer (zer zen)), h33⟩
 ·
  rintro ev43 wl43 ⟨y_m31, hy43, he43, h43⟩
  obtain ⟨ev43, rfl⟩ := he43.open
  subst hy43
  replace hR := hR032
  refine k7 _ _ ?_; clear k7
  refine W.seq_k fun _ k44 => W.regionT [(0, true), (1, false)] (by kernel_rfl) ?_
  refine Plan.loadA1 h43 0 rfl rfl rfl FRef02.agg31 ?_
  refine Plan.storeA (f' := fun q => VU .u8 (m31 q)) h43 1 rfl rfl rfl rfl (fun _ _ => rfl) FRef02.sz31 rfl fun w45 h45 => ?_
  simp only [zca, zna, zsz, zss] at h45
  refine Plan.nil (k44 _ _ ?_); clear k44
  refine W.ret (finR_ret ?_)
  have h46 := St.pickT (C := [_, _]) h45 [] (by decide)
  simp only [pick, zfc, zfn, zgz, zgs, zca, zna] at h46
  subst r
  refine RetOk.mk (.agg h45 rfl (.cons 1 rfl .nil) FRef02.agg31 .nil) ?_
  exact ⟨rfl, h46⟩
theorem letheref02_turn_ok {B : Nat} {w0 w : World} {L : List Rg} {n_1 : Int} {x_2 : BitVec 64} {r : (BitVec 64)} (hR : letheref02_turn n_1 x_2 r) (HST : St B w0 (L) w) :
  Calls Tryd.prog 84 #[.int .i64 n_1, VU .u64 x_2] w fun e w' => e = .returned (VU .u64 r) ∧ St B w0 (L) w' := by
 refine W.enter 18 Tryd.func84 rfl rfl rfl ?_
 unfold letheref02_turn at hR
 refine W.seq_k fun _ k3 => W.regionT [(0, true)] (by kernel_rfl) ?_
 refine Plan.assign_int rfl rfl <| Plan.nil (k3 _ _ ?_); clear k3
 refine W.seq_k fun _ k4 => W.seq_k fun _ k5 => ?_
 refine W.regionT [(0, true)] (by kernel_rfl) ?_
 refine Plan.assign_int rfl rfl <| Plan.nil (k5 _ _ ?_); clear k5
 obtain ⟨x_19, hI20, hR020⟩ := hR
 refine W.cutN (fun e w => ∃ y_x_19 : BitVec 64, x_19 = y_x_19 ∧ EnvHas e [(1, VU .u64 y_x_19)] ∧ St B w0 (L) w) ?_ ?_
 ·
  refine W.block ?_
  refine W.iter hI20 (fun (s20 : ((BitVec 64) × Nat)) e w => EnvHas e [(0, .int .i64 n_1), (1, VU .u64 s20.1), (5, VN s20.2)] ∧ St B w0 (L) w) ⟨(zer (zer (zer zen))), HST⟩ ?_
  rintro ⟨x_17, i_18⟩ o20 hR hx20 ev21 wl21 ⟨he21, h21⟩
  obtain ⟨ev21, rfl⟩ := he21.open
  unfold letheref02_turn_l0 at hR
  refine W.seq_k fun _ k22 => W.seq_k fun _ k23 => ?_
  refine W.regionT [(0, true), (1, true), (2, true)] (by kernel_rfl) ?_
  refine Plan.move_int rfl rfl <| Plan.move_int rfl rfl <| Plan.cmpP (a := (((i_18 : Nat) : Int) : Int)) (b := (n_1 : Int)) (p := ((i_18 : Nat) : Int) < n_1) rfl rfl rfl rfl icmp_lt <| Plan.nil (k23 _ _ ?_); clear k23
  by_cases hc24 : ((i_18 : Nat) : Int) < n_1
  ·
   replace hR := ifT hR hc24
   refine W.condT (congrArg Value.bool (decide_eq_true hc24)) ?_
   refine W.skip ?_
   refine k22 _ _ ?_; clear k22
   refine W.seq_k fun _ k25 => ?_
   refine W.block ?_
   refine W.regionT [(0, true), (1, true), (2, true), (3, true), (4, true), (5, true), (6, true)] (by kernel_rfl) ?_
   refine Plan.move_int rfl rfl <| Plan.quoU .u64 (X := x_17) (Y := 2#64) rfl rfl rfl (by decide) <| Plan.move_int rfl rfl <| Plan.remU .u64 (X := x_17) (Y := 2#64) rfl rfl rfl (by decide) <| Plan.mulU .u64 (X := (x_17 % (2#64))) (Y := 2147483648#64) rfl rfl rfl <| Plan.addU .u64 (X := (x_17 / (2#64))) (Y := ((x_17 % (2#64)) * (2147483648#64))) rfl rfl rfl <| Plan.assign_int rfl rfl <| Plan.nil ?_
   refine blockR_norm ?_
   refine k25 _ _ ?_; clear k25
   refine W.regionT [(0, true), (1, true), (2, true)] (by kernel_rfl) ?_
   refine Plan.move_int rfl rfl ?_
   obtain ⟨hc26, hR⟩ := hR
   refine Plan.addN (a := i_18) (b := 1) rfl rfl rfl (by omega) <| Plan.assign_int rfl rfl <| Plan.nil ?_
   exact iterR_norm ⟨_, hR, (zer (zer (zer zen))), h21⟩
  ·
   replace hR := ifF hR hc24
   refine W.condF (congrArg Value.bool (decide_eq_false hc24)) ?_
   refine W.exit (thenR_exit (iterR_exit (blockR_here ?_)))
   exact ⟨x_17, (hx20 _ hR).symm, (zer zen), h21⟩
 ·
  rintro ev27 wl27 ⟨y_x_19, hy27, he27, h27⟩
  obtain ⟨ev27, rfl⟩ := he27.open
  subst hy27
  replace hR := hR020
  refine k4 _ _ ?_; clear k4
  refine W.seq_k fun _ k28 => W.regionT [(0, true), (1, true)] (by kernel_rfl) ?_
  refine Plan.move_int rfl rfl <| Plan.assign_int rfl rfl <| Plan.nil (k28 _ _ ?_); clear k28
  refine W.ret (finR_ret ?_)
  subst r
  refine RetOk.mk (.tmp_int rfl .nil) ?_
  exact ⟨rfl, h27⟩
theorem letheref02_move_ok {B : Nat} {w0 w : World} {L : List Rg} {n_1 : Int} {x_2 : BitVec 64} {r : (BitVec 64)} (hR : letheref02_move n_1 x_2 r) (HST : St B w0 (L) w) :
  Calls Tryd.prog 85 #[.int .i64 n_1, VU .u64 x_2] w fun e w' => e = .returned (VU .u64 r) ∧ St B w0 (L) w' := by
 refine W.enter 14 Tryd.func85 rfl rfl rfl ?_
 unfold letheref02_move at hR
 refine W.seq_k fun _ k3 => W.regionT [(0, true)] (by kernel_rfl) ?_
 refine Plan.assign_int rfl rfl <| Plan.nil (k3 _ _ ?_); clear k3
 refine W.seq_k fun _ k4 => W.seq_k fun _ k5 => ?_
 refine W.regionT [(0, true)] (by kernel_rfl) ?_
 refine Plan.assign_int rfl rfl <| Plan.nil (k5 _ _ ?_); clear k5
 obtain ⟨x_19, hI20, hR020⟩ := hR
 refine W.cutN (fun e w => ∃ y_x_19 : BitVec 64, x_19 = y_x_19 ∧ EnvHas e [(1, VU .u64 y_x_19)] ∧ St B w0 (L) w) ?_ ?_
 ·
  refine W.block ?_
  refine W.iter hI20 (fun (s20 : ((BitVec 64) × Nat)) e w => EnvHas e [(0, .int .i64 n_1), (1, VU .u64 s20.1), (5, VN s20.2)] ∧ St B w0 (L) w) ⟨(zer (zer (zer zen))), HST⟩ ?_
  rintro ⟨x_17, i_18⟩ o20 hR hx20 ev21 wl21 ⟨he21, h21⟩
  obtain ⟨ev21, rfl⟩ := he21.open
  unfold letheref02_move_l0 at hR
  refine W.seq_k fun _ k22 => W.seq_k fun _ k23 => ?_
  refine W.regionT [(0, true), (1, true), (2, true)] (by kernel_rfl) ?_
  refine Plan.move_int rfl rfl <| Plan.move_int rfl rfl <| Plan.cmpP (a := (((i_18 : Nat) : Int) : Int)) (b := (n_1 : Int)) (p := ((i_18 : Nat) : Int) < n_1) rfl rfl rfl rfl icmp_lt <| Plan.nil (k23 _ _ ?_); clear k23
  by_cases hc24 : ((i_18 : Nat) : Int) < n_1
  ·
   replace hR := ifT hR hc24
   refine W.condT (congrArg Value.bool (decide_eq_true hc24)) ?_
   refine W.skip ?_
   refine k22 _ _ ?_; clear k22
   refine W.seq_k fun _ k25 => ?_
   refine W.block ?_
   refine W.regionT [(0, true), (1, true), (2, true)] (by kernel_rfl) ?_
   refine Plan.move_int rfl rfl <| Plan.quoU .u64 (X := x_17) (Y := 2#64) rfl rfl rfl (by decide) <| Plan.assign_int rfl rfl <| Plan.nil ?_
   refine blockR_norm ?_
   refine k25 _ _ ?_; clear k25
   refine W.regionT [(0, true), (1, true), (2, true)] (by kernel_rfl) ?_
   refine Plan.move_int rfl rfl ?_
   obtain ⟨hc26, hR⟩ := hR
   refine Plan.addN (a := i_18) (b := 1) rfl rfl rfl (by omega) <| Plan.assign_int rfl rfl <| Plan.nil ?_
   exact iterR_norm ⟨_, hR, (zer (zer (zer zen))), h21⟩
  ·
   replace hR := ifF hR hc24
   refine W.condF (congrArg Value.bool (decide_eq_false hc24)) ?_
   refine W.exit (thenR_exit (iterR_exit (blockR_here ?_)))
   exact ⟨x_17, (hx20 _ hR).symm, (zer zen), h21⟩
 ·
  rintro ev27 wl27 ⟨y_x_19, hy27, he27, h27⟩
  obtain ⟨ev27, rfl⟩ := he27.open
  subst hy27
  replace hR := hR020
  refine k4 _ _ ?_; clear k4
  refine W.seq_k fun _ k28 => W.regionT [(0, true), (1, true)] (by kernel_rfl) ?_
  refine Plan.move_int rfl rfl <| Plan.assign_int rfl rfl <| Plan.nil (k28 _ _ ?_); clear k28
  refine W.ret (finR_ret ?_)
  subst r
  refine RetOk.mk (.tmp_int rfl .nil) ?_
  exact ⟨rfl, h27⟩
theorem letheref02_schedule_ok {B : Nat} {w0 w : World} {L : List Rg} {block1 : Nat → BitVec 8} {r : (Nat → BitVec 64)} (hR : letheref02_schedule block1 r) (HST : St B w0 (L) w) :
  Calls Tryd.prog 83 #[AG [(64, fun q => VU .u8 (block1 q))]] w fun e w' => e = .returned (AG [(64, fun q => VU .u64 (r q))]) ∧ St B w0 (L) w' := by
 refine W.enter 86 Tryd.func83 rfl rfl rfl ?_
 unfold letheref02_schedule at hR
 refine W.seq_k fun _ k2 => W.regionT [(0, false), (1, false)] (by kernel_rfl) ?_
 refine Plan.boxA HST rfl rfl PIn.nil fun b3 w3 hb3 h3 => ?_
 simp only [rngs, Nat.zero_add, Nat.reduceAdd, zca, zna] at h3
 refine Plan.alloc h3 rfl FRef02.z145 PIn.nil fun b4 w4 hb4 h4 => ?_
 simp only [rngs, Nat.zero_add, Nat.reduceAdd, zca, zna] at h4
 refine Plan.nil (k2 _ _ ?_); clear k2
 refine W.seq_k fun _ k5 => W.regionT [(0, false)] (by kernel_rfl) ?_
 refine Plan.alloc h4 rfl FRef02.z145 PIn.nil fun b6 w6 hb6 h6 => ?_
 simp only [rngs, Nat.zero_add, Nat.reduceAdd, zca, zna] at h6
 refine Plan.nil (k5 _ _ ?_); clear k5
 refine W.seq_k fun _ k7 => W.seq_k fun _ k8 => ?_
 refine W.regionT [(0, true)] (by kernel_rfl) ?_
 refine Plan.assign_int rfl rfl <| Plan.nil (k8 _ _ ?_); clear k8
 obtain ⟨m75, hI76, hR076⟩ := hR
 refine W.cutN (fun e w => ∃ y_m75 : Nat → BitVec 64, m75 = y_m75 ∧ EnvHas e [(2, .pointer (some ⟨b4, 0, none⟩)), (3, .pointer (some ⟨b6, 0, none⟩))] ∧ St B w0 (⟨some b6, 0, 64, fun q => VU .u64 (y_m75 q), true⟩ :: ⟨some b4, 0, 64, fun q => VU .u64 ((fun _ => 0#64) q), true⟩ :: L) w) ?_ ?_
 ·
  refine W.block ?_
  refine W.iter hI76 (fun (s76 : (Nat × (Nat → BitVec 64))) e w => EnvHas e [(1, .pointer (some ⟨b3, 0, none⟩)), (2, .pointer (some ⟨b4, 0, none⟩)), (3, .pointer (some ⟨b6, 0, none⟩)), (4, VN s76.1)] ∧ St B w0 (⟨some b6, 0, 64, fun q => VU .u64 (s76.2 q), true⟩ :: ⟨some b4, 0, 64, fun q => VU .u64 ((fun _ => 0#64) q), true⟩ :: ⟨some b3, 0, 64, fun q => VU .u8 (block1 q), true⟩ :: L) w) ⟨(zer (zer (zer (zer zen)))), h6⟩ ?_
  rintro ⟨t73, m74⟩ o76 hR hx76 ev77 wl77 ⟨he77, h77⟩
  obtain ⟨ev77, rfl⟩ := he77.open
  unfold letheref02_schedule_l0 at hR
  refine W.seq_k fun _ k78 => W.seq_k fun _ k79 => ?_
  refine W.regionT [(0, true), (1, true)] (by kernel_rfl) ?_
  refine Plan.move_int rfl rfl <| Plan.cmpP (a := (((t73 : Nat) : Int) : Int)) (b := (16 : Int)) (p := t73 < 16) rfl rfl rfl rfl icmp_ltN <| Plan.nil (k79 _ _ ?_); clear k79
  by_cases hc80 : t73 < 16
  ·
   replace hR := ifT hR hc80
   refine W.condT (congrArg Value.bool (decide_eq_true hc80)) ?_
   refine W.skip ?_
   refine k78 _ _ ?_; clear k78
   refine W.seq_k fun _ k81 => ?_
   refine W.block ?_
   refine W.seq_k fun _ k82 => W.regionT [(0, true)] (by kernel_rfl) ?_
   refine Plan.assign_int rfl rfl <| Plan.nil (k82 _ _ ?_); clear k82
   obtain ⟨m99, hI100, hR0100⟩ := hR
   refine W.cutN (fun e w => ∃ y_m99 : Nat → BitVec 64, m99 = y_m99 ∧ EnvHas e [(1, .pointer (some ⟨b3, 0, none⟩)), (2, .pointer (some ⟨b4, 0, none⟩)), (3, .pointer (some ⟨b6, 0, none⟩)), (4, VN t73)] ∧ St B w0 (⟨some b6, 0, 64, fun q => VU .u64 (y_m99 q), true⟩ :: ⟨some b4, 0, 64, fun q => VU .u64 ((fun _ => 0#64) q), true⟩ :: ⟨some b3, 0, 64, fun q => VU .u8 (block1 q), true⟩ :: L) w) ?_ ?_
   ·
    refine W.block ?_
    refine W.iter hI100 (fun (s100 : (Nat × (Nat → BitVec 64))) e w => EnvHas e [(1, .pointer (some ⟨b3, 0, none⟩)), (2, .pointer (some ⟨b4, 0, none⟩)), (3, .pointer (some ⟨b6, 0, none⟩)), (4, VN t73), (5, VN s100.1)] ∧ St B w0 (⟨some b6, 0, 64, fun q => VU .u64 (s100.2 q), true⟩ :: ⟨some b4, 0, 64, fun q => VU .u64 ((fun _ => 0#64) q), true⟩ :: ⟨some b3, 0, 64, fun q => VU .u8 (block1 q), true⟩ :: L) w) ⟨(zer (zer (zer (zer (zer zen))))), h77⟩ ?_
    rintro ⟨k97, m98⟩ o100 hR hx100 ev101 wl101 ⟨he101, h101⟩
    obtain ⟨ev101, rfl⟩ := he101.open
    unfold letheref02_schedule_l1 at hR
    refine W.seq_k fun _ k102 => W.seq_k fun _ k103 => ?_
    refine W.regionT [(0, true), (1, true)] (by kernel_rfl) ?_
    refine Plan.move_int rfl rfl <| Plan.cmpP (a := (((k97 : Nat) : Int) : Int)) (b := (4 : Int)) (p := k97 < 4) rfl rfl rfl rfl icmp_ltN <| Plan.nil (k103 _ _ ?_); clear k103
    by_cases hc104 : k97 < 4
    ·
     replace hR := ifT hR hc104
     refine W.condT (congrArg Value.bool (decide_eq_true hc104)) ?_
     refine W.skip ?_
     refine k102 _ _ ?_; clear k102
     refine W.seq_k fun _ k105 => ?_
     refine W.block ?_
     refine W.regionD FRef02.mixed [(0, true), (1, true), (2, true), (3, true), (4, true), (5, true), (6, true), (7, true), (8, true), (9, true), (10, true), (11, true), (12, true), (13, true), (14, false)] (by kernel_rfl) ?_
     have h106 := h101.drew
     refine Plan.move_int rfl rfl <| Plan.move_int rfl rfl <| Plan.idxArr1 (j := t73) FRef02.arr145 rfl rfl rfl (by omega) <| Plan.load1 (j := t73) h106 0 rfl rfl rfl (by omega) FRef02.sc67 <| Plan.mulU .u64 (X := (m98 t73)) (Y := 256#64) rfl rfl rfl <| Plan.move_int rfl rfl <| Plan.mulN (a := 4) (b := t73) rfl rfl rfl (by omega) <| Plan.move_int rfl rfl ?_
     refine Plan.addN (a := (4 * t73)) (b := k97) rfl rfl rfl (by omega) <| Plan.idxArr1 (j := ((4 * t73) + k97)) FRef02.arr31 rfl rfl rfl (by omega) <| Plan.load1 (j := ((4 * t73) + k97)) h106 2 rfl rfl rfl (by omega) FRef02.sc5 <| Plan.convUU .u64 (X := (block1 ((4 * t73) + k97))) FRef02.u67 FRef02.some5 rfl rfl <| Plan.addU .u64 (X := ((m98 t73) * (256#64))) (Y := ((block1 ((4 * t73) + k97)).setWidth 64)) rfl rfl rfl <| Plan.idxArr1 (j := t73) FRef02.arr145 rfl rfl rfl (by omega) ?_
     refine Plan.storeU (j := t73) (X := (((m98 t73) * (256#64)) + ((block1 ((4 * t73) + k97)).setWidth 64))) h106 0 rfl rfl rfl rfl (by omega) FRef02.sz67 rfl fun w107 h107 => ?_
     simp only [zca, zna, zsz, zss] at h107
     refine Plan.nil ?_
     refine blockR_norm ?_
     refine k105 _ _ ?_; clear k105
     refine W.regionT [(0, true), (1, true), (2, true)] (by kernel_rfl) ?_
     refine Plan.move_int rfl rfl <| Plan.addN (a := k97) (b := 1) rfl rfl rfl (by omega) <| Plan.assign_int rfl rfl <| Plan.nil ?_
     exact iterR_norm ⟨_, hR, (zer (zer (zer (zer (zer zen))))), h107⟩
    ·
     replace hR := ifF hR hc104
     refine W.condF (congrArg Value.bool (decide_eq_false hc104)) ?_
     refine W.exit (thenR_exit (iterR_exit (blockR_here ?_)))
     exact ⟨m98, (hx100 _ hR).symm, (zer (zer (zer (zer zen)))), h101⟩
   ·
    rintro ev108 wl108 ⟨y_m99, hy108, he108, h108⟩
    obtain ⟨ev108, rfl⟩ := he108.open
    subst hy108
    replace hR := hR0100
    refine blockR_norm ?_
    refine k81 _ _ ?_; clear k81
    refine W.regionT [(0, true), (1, true), (2, true)] (by kernel_rfl) ?_
    refine Plan.move_int rfl rfl <| Plan.addN (a := t73) (b := 1) rfl rfl rfl (by omega) <| Plan.assign_int rfl rfl <| Plan.nil ?_
    exact iterR_norm ⟨_, hR, (zer (zer (zer (zer zen)))), h108⟩
  ·
   replace hR := ifF hR hc80
   refine W.condF (congrArg Value.bool (decide_eq_false hc80)) ?_
   refine W.exit (thenR_exit (iterR_exit (blockR_here ?_)))
   have h109 := St.pickT (C := [_, _, _]) h77 [0, 1] (by decide)
   simp only [pick, zfc, zfn, zgz, zgs, zca, zna] at h109
   exact ⟨m74, (hx76 _ hR).symm, (zer (zer zen)), h109⟩
 ·
  rintro ev110 wl110 ⟨y_m75, hy110, he110, h110⟩
  obtain ⟨ev110, rfl⟩ := he110.open
  subst hy110
  replace hR := hR076
  refine k7 _ _ ?_; clear k7
  refine W.seq_k fun _ k111 => W.seq_k fun _ k112 => ?_
  refine W.regionT [(0, true)] (by kernel_rfl) ?_
  refine Plan.assign_int rfl rfl <| Plan.nil (k112 _ _ ?_); clear k112
  obtain ⟨m181, hI182, hR0182⟩ := hR
  refine W.cutN (fun e w => ∃ y_m181 : Nat → BitVec 64, m181 = y_m181 ∧ EnvHas e [(2, .pointer (some ⟨b4, 0, none⟩)), (3, .pointer (some ⟨b6, 0, none⟩))] ∧ St B w0 (⟨some b6, 0, 64, fun q => VU .u64 (y_m181 q), true⟩ :: ⟨some b4, 0, 64, fun q => VU .u64 ((fun _ => 0#64) q), true⟩ :: L) w) ?_ ?_
  ·
   refine W.block ?_
   refine W.iter hI182 (fun (s182 : (Nat × (Nat → BitVec 64))) e w => EnvHas e [(2, .pointer (some ⟨b4, 0, none⟩)), (3, .pointer (some ⟨b6, 0, none⟩)), (6, VN s182.1)] ∧ St B w0 (⟨some b6, 0, 64, fun q => VU .u64 (s182.2 q), true⟩ :: ⟨some b4, 0, 64, fun q => VU .u64 ((fun _ => 0#64) q), true⟩ :: L) w) ⟨(zer (zer (zer zen))), h110⟩ ?_
   rintro ⟨t179, m180⟩ o182 hR hx182 ev183 wl183 ⟨he183, h183⟩
   obtain ⟨ev183, rfl⟩ := he183.open
   unfold letheref02_schedule_l2 at hR
   refine W.seq_k fun _ k184 => W.seq_k fun _ k185 => ?_
   refine W.regionT [(0, true), (1, true)] (by kernel_rfl) ?_
   refine Plan.move_int rfl rfl <| Plan.cmpP (a := (((t179 : Nat) : Int) : Int)) (b := (64 : Int)) (p := t179 < 64) rfl rfl rfl rfl icmp_ltN <| Plan.nil (k185 _ _ ?_); clear k185
   by_cases hc186 : t179 < 64
   ·
    replace hR := ifT hR hc186
    refine W.condT (congrArg Value.bool (decide_eq_true hc186)) ?_
    refine W.skip ?_
    refine k184 _ _ ?_; clear k184
    refine W.seq_k fun _ k187 => ?_
    refine W.block ?_
    refine W.seq_k fun _ k188 => ?_
    refine W.regionD FRef02.mixed [(0, true), (1, true), (2, true), (3, true), (5, true), (6, true), (7, true), (8, true), (11, true), (12, true), (13, true), (14, true), (4, false), (9, false), (10, true), (15, false), (16, true), (17, true)] (by kernel_rfl) ?_
    have h189 := h183.drew
    refine Plan.move_int rfl rfl <| Plan.subI (a := ((t179 : Nat) : Int)) (b := 15) rfl rfl rfl (by omega) ?_
    obtain ⟨hc190, hR⟩ := hR
    refine Plan.idxArr1 (j := (((t179 : Nat) : Int) - 15).toNat) FRef02.arr145 rfl rfl (congrArg (Value.int .i64) (Int.toNat_of_nonneg hc190.1).symm) (by omega) <| Plan.load1 (j := (((t179 : Nat) : Int) - 15).toNat) h189 0 rfl rfl rfl (by omega) FRef02.sc67 <| Plan.move_int rfl rfl <| Plan.subI (a := ((t179 : Nat) : Int)) (b := 15) rfl rfl rfl (by omega) ?_
    obtain ⟨hc191, hR⟩ := hR
    refine Plan.idxArr1 (j := (((t179 : Nat) : Int) - 15).toNat) FRef02.arr145 rfl rfl (congrArg (Value.int .i64) (Int.toNat_of_nonneg hc191.1).symm) (by omega) <| Plan.load1 (j := (((t179 : Nat) : Int) - 15).toNat) h189 0 rfl rfl rfl (by omega) FRef02.sc67 <| Plan.move_int rfl rfl <| Plan.subI (a := ((t179 : Nat) : Int)) (b := 15) rfl rfl rfl (by omega) ?_
    obtain ⟨hc192, hR⟩ := hR
    refine Plan.idxArr1 (j := (((t179 : Nat) : Int) - 15).toNat) FRef02.arr145 rfl rfl (congrArg (Value.int .i64) (Int.toNat_of_nonneg hc192.1).symm) (by omega) <| Plan.load1 (j := (((t179 : Nat) : Int) - 15).toNat) h189 0 rfl rfl rfl (by omega) FRef02.sc67 ?_
    obtain ⟨x_194, hr193, hR⟩ := hR
    refine Plan.call (vs := [VN 7, VU .u64 (m180 ((((t179 : Nat) : Int) - 15).toNat))]) rfl FRef02.call84 rfl (letheref02_turn_ok  hr193 h189) ?_
    rintro _ w195 ⟨rfl, h195⟩
    refine ⟨_, rfl, .inl ⟨PIn.keep (PIn.cons 0 rfl (PIn.cons 0 rfl (PIn.cons 0 rfl PIn.nil))) h195, ?_⟩⟩
    obtain ⟨x_197, hr196, hR⟩ := hR
    refine Plan.call (vs := [VN 18, VU .u64 (m180 ((((t179 : Nat) : Int) - 15).toNat))]) rfl FRef02.call84 rfl (letheref02_turn_ok  hr196 h195) ?_
    rintro _ w198 ⟨rfl, h198⟩
    refine ⟨_, rfl, .inl ⟨PIn.keep (PIn.cons 0 rfl (PIn.cons 0 rfl (PIn.cons 0 rfl PIn.nil))) h198, ?_⟩⟩
    refine Plan.xorU .u64 (X := x_194) (Y := x_197) rfl rfl rfl ?_
    obtain ⟨x_200, hr199, hR⟩ := hR
    refine Plan.call (vs := [VN 3, VU .u64 (m180 ((((t179 : Nat) : Int) - 15).toNat))]) rfl FRef02.call85 rfl (letheref02_move_ok  hr199 h198) ?_
    rintro _ w201 ⟨rfl, h201⟩
    refine ⟨_, rfl, .inl ⟨PIn.keep (PIn.cons 0 rfl (PIn.cons 0 rfl (PIn.cons 0 rfl PIn.nil))) h201, ?_⟩⟩
    refine Plan.xorU .u64 (X := (x_194 ^^^ x_197)) (Y := x_200) rfl rfl rfl <| Plan.assign_int rfl rfl <| Plan.nil (k188 _ _ ?_); clear k188
    refine W.seq_k fun _ k202 => ?_
    refine W.regionD FRef02.mixed [(0, true), (1, true), (2, true), (3, true), (5, true), (6, true), (7, true), (8, true), (11, true), (12, true), (13, true), (14, true), (4, false), (9, false), (10, true), (15, false), (16, true), (17, true)] (by kernel_rfl) ?_
    have h203 := h201.drew
    refine Plan.move_int rfl rfl <| Plan.subI (a := ((t179 : Nat) : Int)) (b := 2) rfl rfl rfl (by omega) ?_
    obtain ⟨hc204, hR⟩ := hR
    refine Plan.idxArr1 (j := (((t179 : Nat) : Int) - 2).toNat) FRef02.arr145 rfl rfl (congrArg (Value.int .i64) (Int.toNat_of_nonneg hc204.1).symm) (by omega) <| Plan.load1 (j := (((t179 : Nat) : Int) - 2).toNat) h203 0 rfl rfl rfl (by omega) FRef02.sc67 <| Plan.move_int rfl rfl <| Plan.subI (a := ((t179 : Nat) : Int)) (b := 2) rfl rfl rfl (by omega) ?_
    obtain ⟨hc205, hR⟩ := hR
    refine Plan.idxArr1 (j := (((t179 : Nat) : Int) - 2).toNat) FRef02.arr145 rfl rfl (congrArg (Value.int .i64) (Int.toNat_of_nonneg hc205.1).symm) (by omega) <| Plan.load1 (j := (((t179 : Nat) : Int) - 2).toNat) h203 0 rfl rfl rfl (by omega) FRef02.sc67 <| Plan.move_int rfl rfl <| Plan.subI (a := ((t179 : Nat) : Int)) (b := 2) rfl rfl rfl (by omega) ?_
    obtain ⟨hc206, hR⟩ := hR
    refine Plan.idxArr1 (j := (((t179 : Nat) : Int) - 2).toNat) FRef02.arr145 rfl rfl (congrArg (Value.int .i64) (Int.toNat_of_nonneg hc206.1).symm) (by omega) <| Plan.load1 (j := (((t179 : Nat) : Int) - 2).toNat) h203 0 rfl rfl rfl (by omega) FRef02.sc67 ?_
    obtain ⟨x_208, hr207, hR⟩ := hR
    refine Plan.call (vs := [VN 17, VU .u64 (m180 ((((t179 : Nat) : Int) - 2).toNat))]) rfl FRef02.call84 rfl (letheref02_turn_ok  hr207 h203) ?_
    rintro _ w209 ⟨rfl, h209⟩
    refine ⟨_, rfl, .inl ⟨PIn.keep (PIn.cons 0 rfl (PIn.cons 0 rfl (PIn.cons 0 rfl PIn.nil))) h209, ?_⟩⟩
    obtain ⟨x_211, hr210, hR⟩ := hR
    refine Plan.call (vs := [VN 19, VU .u64 (m180 ((((t179 : Nat) : Int) - 2).toNat))]) rfl FRef02.call84 rfl (letheref02_turn_ok  hr210 h209) ?_
    rintro _ w212 ⟨rfl, h212⟩
    refine ⟨_, rfl, .inl ⟨PIn.keep (PIn.cons 0 rfl (PIn.cons 0 rfl (PIn.cons 0 rfl PIn.nil))) h212, ?_⟩⟩
    refine Plan.xorU .u64 (X := x_208) (Y := x_211) rfl rfl rfl ?_
    obtain ⟨x_214, hr213, hR⟩ := hR
    refine Plan.call (vs := [VN 10, VU .u64 (m180 ((((t179 : Nat) : Int) - 2).toNat))]) rfl FRef02.call85 rfl (letheref02_move_ok  hr213 h212) ?_
    rintro _ w215 ⟨rfl, h215⟩
    refine ⟨_, rfl, .inl ⟨PIn.keep (PIn.cons 0 rfl (PIn.cons 0 rfl (PIn.cons 0 rfl PIn.nil))) h215, ?_⟩⟩
    refine Plan.xorU .u64 (X := (x_208 ^^^ x_211)) (Y := x_214) rfl rfl rfl <| Plan.assign_int rfl rfl <| Plan.nil (k202 _ _ ?_); clear k202
    refine W.regionD FRef02.mixed [(0, true), (1, true), (2, true), (3, true), (4, true), (5, true), (6, true), (7, true), (8, true), (9, true), (10, true), (11, true), (12, true), (13, true), (14, true), (15, true), (16, false)] (by kernel_rfl) ?_
    have h216 := h215.drew
    refine Plan.move_int rfl rfl <| Plan.move_int rfl rfl <| Plan.move_int rfl rfl <| Plan.subI (a := ((t179 : Nat) : Int)) (b := 7) rfl rfl rfl (by omega) ?_
    obtain ⟨hc217, hR⟩ := hR
    refine Plan.idxArr1 (j := (((t179 : Nat) : Int) - 7).toNat) FRef02.arr145 rfl rfl (congrArg (Value.int .i64) (Int.toNat_of_nonneg hc217.1).symm) (by omega) <| Plan.load1 (j := (((t179 : Nat) : Int) - 7).toNat) h216 0 rfl rfl rfl (by omega) FRef02.sc67 <| Plan.addU .u64 (X := ((x_208 ^^^ x_211) ^^^ x_214)) (Y := (m180 ((((t179 : Nat) : Int) - 7).toNat))) rfl rfl rfl <| Plan.move_int rfl rfl <| Plan.addU .u64 (X := (((x_208 ^^^ x_211) ^^^ x_214) + (m180 ((((t179 : Nat) : Int) - 7).toNat)))) (Y := ((x_194 ^^^ x_197) ^^^ x_200)) rfl rfl rfl <| Plan.move_int rfl rfl <| Plan.subI (a := ((t179 : Nat) : Int)) (b := 16) rfl rfl rfl (by omega) ?_
    obtain ⟨hc218, hR⟩ := hR
    refine Plan.idxArr1 (j := (((t179 : Nat) : Int) - 16).toNat) FRef02.arr145 rfl rfl (congrArg (Value.int .i64) (Int.toNat_of_nonneg hc218.1).symm) (by omega) <| Plan.load1 (j := (((t179 : Nat) : Int) - 16).toNat) h216 0 rfl rfl rfl (by omega) FRef02.sc67 <| Plan.addU .u64 (X := ((((x_208 ^^^ x_211) ^^^ x_214) + (m180 ((((t179 : Nat) : Int) - 7).toNat))) + ((x_194 ^^^ x_197) ^^^ x_200))) (Y := (m180 ((((t179 : Nat) : Int) - 16).toNat))) rfl rfl rfl <| Plan.remU .u64 (X := (((((x_208 ^^^ x_211) ^^^ x_214) + (m180 ((((t179 : Nat) : Int) - 7).toNat))) + ((x_194 ^^^ x_197) ^^^ x_200)) + (m180 ((((t179 : Nat) : Int) - 16).toNat)))) (Y := 4294967296#64) rfl rfl rfl (by decide) <| Plan.idxArr1 (j := t179) FRef02.arr145 rfl rfl rfl (by omega) ?_
    refine Plan.storeU (j := t179) (X := ((((((x_208 ^^^ x_211) ^^^ x_214) + (m180 ((((t179 : Nat) : Int) - 7).toNat))) + ((x_194 ^^^ x_197) ^^^ x_200)) + (m180 ((((t179 : Nat) : Int) - 16).toNat))) % (4294967296#64))) h216 0 rfl rfl rfl rfl (by omega) FRef02.sz67 rfl fun w219 h219 => ?_
    simp only [zca, zna, zsz, zss] at h219
    refine Plan.nil ?_
    refine blockR_norm ?_
    refine k187 _ _ ?_; clear k187
    refine W.regionT [(0, true), (1, true), (2, true)] (by kernel_rfl) ?_
    refine Plan.move_int rfl rfl <| Plan.addN (a := t179) (b := 1) rfl rfl rfl (by omega) <| Plan.assign_int rfl rfl <| Plan.nil ?_
    exact iterR_norm ⟨_, hR, (zer (zer (zer zen))), h219⟩
   ·
    replace hR := ifF hR hc186
    refine W.condF (congrArg Value.bool (decide_eq_false hc186)) ?_
    refine W.exit (thenR_exit (iterR_exit (blockR_here ?_)))
    exact ⟨m180, (hx182 _ hR).symm, (zer (zer zen)), h183⟩
  ·
   rintro ev220 wl220 ⟨y_m181, hy220, he220, h220⟩
   obtain ⟨ev220, rfl⟩ := he220.open
   subst hy220
   replace hR := hR0182
   refine k111 _ _ ?_; clear k111
   refine W.seq_k fun _ k221 => W.regionT [(0, true), (1, false)] (by kernel_rfl) ?_
   refine Plan.loadA1 h220 0 rfl rfl rfl FRef02.agg145 ?_
   refine Plan.storeA (f' := fun q => VU .u64 (m181 q)) h220 1 rfl rfl rfl rfl (fun _ _ => rfl) FRef02.sz145 rfl fun w222 h222 => ?_
   simp only [zca, zna, zsz, zss] at h222
   refine Plan.nil (k221 _ _ ?_); clear k221
   refine W.ret (finR_ret ?_)
   have h223 := St.pickT (C := [_, _]) h222 [] (by decide)
   simp only [pick, zfc, zfn, zgz, zgs, zca, zna] at h223
   subst r
   refine RetOk.mk (.agg h222 rfl (.cons 1 rfl .nil) FRef02.agg145 .nil) ?_
   exact ⟨rfl, h223⟩
theorem letheref02_Block_ok {B : Nat} {w0 w : World} {L : List Rg} {iG5 : Nat} (hG5 : L[iG5]? = some ⟨some 5, 0, 64, fun q => VU .u64 (K64 q), false⟩) {state1 : Nat → BitVec 32} {block2 : Nat → BitVec 8} {r : (Nat → BitVec 32)} (hR : letheref02_Block state1 block2 r) (HST : St B w0 (L) w) :
  Calls Tryd.prog 80 #[AG [(8, fun q => VU .u32 (state1 q))], AG [(64, fun q => VU .u8 (block2 q))]] w fun e w' => e = .returned (AG [(8, fun q => VU .u32 (r q))]) ∧ St B w0 (L) w' := by
 refine W.enter 135 Tryd.func80 rfl rfl rfl ?_
 unfold letheref02_Block at hR
 refine W.seq_k fun _ k3 => W.regionT [(0, false), (1, false), (2, false)] (by kernel_rfl) ?_
 refine Plan.boxA HST rfl rfl PIn.nil fun b4 w4 hb4 h4 => ?_
 simp only [rngs, Nat.zero_add, Nat.reduceAdd, zca, zna] at h4
 refine Plan.boxA h4 rfl rfl PIn.nil fun b5 w5 hb5 h5 => ?_
 simp only [rngs, Nat.zero_add, Nat.reduceAdd, zca, zna] at h5
 refine Plan.alloc h5 rfl FRef02.z118 PIn.nil fun b6 w6 hb6 h6 => ?_
 simp only [rngs, Nat.zero_add, Nat.reduceAdd, zca, zna] at h6
 refine Plan.nil (k3 _ _ ?_); clear k3
 refine W.seq_k fun _ k7 => W.regionT [(0, true), (1, false), (2, false), (3, false)] (by kernel_rfl) ?_
 refine Plan.loadA1 h6 1 rfl rfl rfl FRef02.agg31 ?_
 obtain ⟨x_9, hr8, hR⟩ := hR
 refine Plan.call (vs := [AG [(64, fun q => VU .u8 (block2 q))]]) rfl FRef02.call83 rfl (letheref02_schedule_ok  hr8 h6) ?_
 rintro _ w10 ⟨rfl, h10⟩
 refine ⟨_, rfl, .inr ⟨rfl, ?_⟩⟩
 refine Plan.alloc h10 rfl FRef02.z145 PIn.nil fun b11 w11 hb11 h11 => ?_
 simp only [rngs, Nat.zero_add, Nat.reduceAdd, zca, zna] at h11
 refine Plan.storeA (f' := fun q => VU .u64 (x_9 q)) h11 0 rfl rfl rfl rfl (fun _ _ => rfl) FRef02.sz145 rfl fun w12 h12 => ?_
 simp only [zca, zna, zsz, zss] at h12
 refine Plan.nil (k7 _ _ ?_); clear k7
 refine W.seq_k fun _ k13 => W.regionT [(0, false)] (by kernel_rfl) ?_
 refine Plan.alloc h12 rfl FRef02.z144 PIn.nil fun b14 w14 hb14 h14 => ?_
 simp only [rngs, Nat.zero_add, Nat.reduceAdd, zca, zna] at h14
 refine Plan.nil (k13 _ _ ?_); clear k13
 refine W.seq_k fun _ k15 => W.seq_k fun _ k16 => ?_
 refine W.regionT [(0, true)] (by kernel_rfl) ?_
 refine Plan.assign_int rfl rfl <| Plan.nil (k16 _ _ ?_); clear k16
 obtain ⟨m31, hI32, hR032⟩ := hR
 refine W.cutN (fun e w => ∃ y_m31 : Nat → BitVec 64, m31 = y_m31 ∧ EnvHas e [(2, .pointer (some ⟨b4, 0, none⟩)), (4, .pointer (some ⟨b6, 0, none⟩)), (5, .pointer (some ⟨b11, 0, none⟩)), (6, .pointer (some ⟨b14, 0, none⟩))] ∧ St B w0 (⟨some b14, 0, 8, fun q => VU .u64 (y_m31 q), true⟩ :: ⟨some b11, 0, 64, fun q => VU .u64 (x_9 q), true⟩ :: ⟨some b6, 0, 8, fun q => VU .u32 ((fun _ => 0#32) q), true⟩ :: ⟨some b4, 0, 8, fun q => VU .u32 (state1 q), true⟩ :: L) w) ?_ ?_
 ·
  refine W.block ?_
  have h33 := St.pickT (C := [_, _, _, _, _]) h14 [0, 1, 2, 4] (by decide)
  simp only [pick, zfc, zfn, zgz, zgs, zca, zna] at h33
  refine W.iter hI32 (fun (s32 : (Nat × (Nat → BitVec 64))) e w => EnvHas e [(2, .pointer (some ⟨b4, 0, none⟩)), (4, .pointer (some ⟨b6, 0, none⟩)), (5, .pointer (some ⟨b11, 0, none⟩)), (6, .pointer (some ⟨b14, 0, none⟩)), (7, VN s32.1)] ∧ St B w0 (⟨some b14, 0, 8, fun q => VU .u64 (s32.2 q), true⟩ :: ⟨some b11, 0, 64, fun q => VU .u64 (x_9 q), true⟩ :: ⟨some b6, 0, 8, fun q => VU .u32 ((fun _ => 0#32) q), true⟩ :: ⟨some b4, 0, 8, fun q => VU .u32 (state1 q), true⟩ :: L) w) ⟨(zer (zer (zer (zer (zer zen))))), h33⟩ ?_
  rintro ⟨i_29, m30⟩ o32 hR hx32 ev34 wl34 ⟨he34, h34⟩
  obtain ⟨ev34, rfl⟩ := he34.open
  unfold letheref02_Block_l0 at hR
  refine W.seq_k fun _ k35 => W.seq_k fun _ k36 => ?_
  refine W.regionT [(0, true), (1, true)] (by kernel_rfl) ?_
  refine Plan.move_int rfl rfl <| Plan.cmpP (a := (((i_29 : Nat) : Int) : Int)) (b := (8 : Int)) (p := i_29 < 8) rfl rfl rfl rfl icmp_ltN <| Plan.nil (k36 _ _ ?_); clear k36
  by_cases hc37 : i_29 < 8
  ·
   replace hR := ifT hR hc37
   refine W.condT (congrArg Value.bool (decide_eq_true hc37)) ?_
   refine W.skip ?_
   refine k35 _ _ ?_; clear k35
   refine W.seq_k fun _ k38 => ?_
   refine W.block ?_
   refine W.regionT [(0, true), (1, true), (2, true), (3, true), (4, true), (5, true), (6, false)] (by kernel_rfl) ?_
   refine Plan.move_int rfl rfl <| Plan.move_int rfl rfl <| Plan.idxArr1 (j := i_29) FRef02.arr118 rfl rfl rfl (by omega) <| Plan.load1 (j := i_29) h34 3 rfl rfl rfl (by omega) FRef02.sc26 <| Plan.convUU .u64 (X := (state1 i_29)) FRef02.u67 FRef02.some26 rfl rfl <| Plan.idxArr1 (j := i_29) FRef02.arr144 rfl rfl rfl (by omega) ?_
   refine Plan.storeU (j := i_29) (X := ((state1 i_29).setWidth 64)) h34 0 rfl rfl rfl rfl (by omega) FRef02.sz67 rfl fun w39 h39 => ?_
   simp only [zca, zna, zsz, zss] at h39
   refine Plan.nil ?_
   refine blockR_norm ?_
   refine k38 _ _ ?_; clear k38
   refine W.regionT [(0, true), (1, true), (2, true)] (by kernel_rfl) ?_
   refine Plan.move_int rfl rfl <| Plan.addN (a := i_29) (b := 1) rfl rfl rfl (by omega) <| Plan.assign_int rfl rfl <| Plan.nil ?_
   exact iterR_norm ⟨_, hR, (zer (zer (zer (zer (zer zen))))), h39⟩
  ·
   replace hR := ifF hR hc37
   refine W.condF (congrArg Value.bool (decide_eq_false hc37)) ?_
   refine W.exit (thenR_exit (iterR_exit (blockR_here ?_)))
   exact ⟨m30, (hx32 _ hR).symm, (zer (zer (zer (zer zen)))), h34⟩
 ·
  rintro ev40 wl40 ⟨y_m31, hy40, he40, h40⟩
  obtain ⟨ev40, rfl⟩ := he40.open
  subst hy40
  replace hR := hR032
  refine k15 _ _ ?_; clear k15
  refine W.seq_k fun _ k41 => W.seq_k fun _ k42 => ?_
  refine W.regionT [(0, true)] (by kernel_rfl) ?_
  refine Plan.assign_int rfl rfl <| Plan.nil (k42 _ _ ?_); clear k42
  obtain ⟨m203, hI204, hR0204⟩ := hR
  refine W.cutN (fun e w => ∃ y_m203 : Nat → BitVec 64, m203 = y_m203 ∧ EnvHas e [(2, .pointer (some ⟨b4, 0, none⟩)), (4, .pointer (some ⟨b6, 0, none⟩)), (6, .pointer (some ⟨b14, 0, none⟩))] ∧ St B w0 (⟨some b14, 0, 8, fun q => VU .u64 (y_m203 q), true⟩ :: ⟨some b6, 0, 8, fun q => VU .u32 ((fun _ => 0#32) q), true⟩ :: ⟨some b4, 0, 8, fun q => VU .u32 (state1 q), true⟩ :: L) w) ?_ ?_
  ·
   refine W.block ?_
   refine W.iter hI204 (fun (s204 : (Nat × (Nat → BitVec 64))) e w => EnvHas e [(2, .pointer (some ⟨b4, 0, none⟩)), (4, .pointer (some ⟨b6, 0, none⟩)), (5, .pointer (some ⟨b11, 0, none⟩)), (6, .pointer (some ⟨b14, 0, none⟩)), (8, VN s204.1)] ∧ St B w0 (⟨some b14, 0, 8, fun q => VU .u64 (s204.2 q), true⟩ :: ⟨some b11, 0, 64, fun q => VU .u64 (x_9 q), true⟩ :: ⟨some b6, 0, 8, fun q => VU .u32 ((fun _ => 0#32) q), true⟩ :: ⟨some b4, 0, 8, fun q => VU .u32 (state1 q), true⟩ :: L) w) ⟨(zer (zer (zer (zer (zer zen))))), h40⟩ ?_
   rintro ⟨t201, m202⟩ o204 hR hx204 ev205 wl205 ⟨he205, h205⟩
   obtain ⟨ev205, rfl⟩ := he205.open
   unfold letheref02_Block_l1 at hR
   refine W.seq_k fun _ k206 => W.seq_k fun _ k207 => ?_
   refine W.regionT [(0, true), (1, true)] (by kernel_rfl) ?_
   refine Plan.move_int rfl rfl <| Plan.cmpP (a := (((t201 : Nat) : Int) : Int)) (b := (64 : Int)) (p := t201 < 64) rfl rfl rfl rfl icmp_ltN <| Plan.nil (k207 _ _ ?_); clear k207
   by_cases hc208 : t201 < 64
   ·
    replace hR := ifT hR hc208
    refine W.condT (congrArg Value.bool (decide_eq_true hc208)) ?_
    refine W.skip ?_
    refine k206 _ _ ?_; clear k206
    refine W.seq_k fun _ k209 => ?_
    refine W.block ?_
    refine W.seq_k fun _ k210 => ?_
    refine W.regionD FRef02.mixed [(0, true), (1, true), (2, true), (3, true), (4, true), (5, true)] (by kernel_rfl) ?_
    have h211 := h205.drew
    refine Plan.idxArr1 (j := 0) FRef02.arr144 rfl rfl rfl (by omega) <| Plan.load1 (j := 0) h211 0 rfl rfl rfl (by omega) FRef02.sc67 <| Plan.idxArr1 (j := 4) FRef02.arr144 rfl rfl rfl (by omega) <| Plan.load1 (j := 4) h211 0 rfl rfl rfl (by omega) FRef02.sc67 <| Plan.assign_int rfl rfl <| Plan.assign_int rfl rfl <| Plan.nil (k210 _ _ ?_); clear k210
    refine W.seq_k fun _ k212 => W.regionT [(0, true), (1, false), (2, true), (3, false), (4, true), (5, true), (6, false), (7, true), (8, true)] (by kernel_rfl) ?_
    refine Plan.move_int rfl rfl ?_
    obtain ⟨x_214, hr213, hR⟩ := hR
    refine Plan.call (vs := [VN 2, VU .u64 (m202 0)]) rfl FRef02.call84 rfl (letheref02_turn_ok  hr213 h211) ?_
    rintro _ w215 ⟨rfl, h215⟩
    refine ⟨_, rfl, .inl ⟨PIn.keep PIn.nil h215, ?_⟩⟩
    refine Plan.move_int rfl rfl ?_
    obtain ⟨x_217, hr216, hR⟩ := hR
    refine Plan.call (vs := [VN 13, VU .u64 (m202 0)]) rfl FRef02.call84 rfl (letheref02_turn_ok  hr216 h215) ?_
    rintro _ w218 ⟨rfl, h218⟩
    refine ⟨_, rfl, .inl ⟨PIn.keep PIn.nil h218, ?_⟩⟩
    refine Plan.xorU .u64 (X := x_214) (Y := x_217) rfl rfl rfl <| Plan.move_int rfl rfl ?_
    obtain ⟨x_220, hr219, hR⟩ := hR
    refine Plan.call (vs := [VN 22, VU .u64 (m202 0)]) rfl FRef02.call84 rfl (letheref02_turn_ok  hr219 h218) ?_
    rintro _ w221 ⟨rfl, h221⟩
    refine ⟨_, rfl, .inl ⟨PIn.keep PIn.nil h221, ?_⟩⟩
    refine Plan.xorU .u64 (X := (x_214 ^^^ x_217)) (Y := x_220) rfl rfl rfl <| Plan.assign_int rfl rfl <| Plan.nil (k212 _ _ ?_); clear k212
    refine W.seq_k fun _ k222 => W.regionT [(0, true), (1, false), (2, true), (3, false), (4, true), (5, true), (6, false), (7, true), (8, true)] (by kernel_rfl) ?_
    refine Plan.move_int rfl rfl ?_
    obtain ⟨x_224, hr223, hR⟩ := hR
    refine Plan.call (vs := [VN 6, VU .u64 (m202 4)]) rfl FRef02.call84 rfl (letheref02_turn_ok  hr223 h221) ?_
    rintro _ w225 ⟨rfl, h225⟩
    refine ⟨_, rfl, .inl ⟨PIn.keep PIn.nil h225, ?_⟩⟩
    refine Plan.move_int rfl rfl ?_
    obtain ⟨x_227, hr226, hR⟩ := hR
    refine Plan.call (vs := [VN 11, VU .u64 (m202 4)]) rfl FRef02.call84 rfl (letheref02_turn_ok  hr226 h225) ?_
    rintro _ w228 ⟨rfl, h228⟩
    refine ⟨_, rfl, .inl ⟨PIn.keep PIn.nil h228, ?_⟩⟩
    refine Plan.xorU .u64 (X := x_224) (Y := x_227) rfl rfl rfl <| Plan.move_int rfl rfl ?_
    obtain ⟨x_230, hr229, hR⟩ := hR
    refine Plan.call (vs := [VN 25, VU .u64 (m202 4)]) rfl FRef02.call84 rfl (letheref02_turn_ok  hr229 h228) ?_
    rintro _ w231 ⟨rfl, h231⟩
    refine ⟨_, rfl, .inl ⟨PIn.keep PIn.nil h231, ?_⟩⟩
    refine Plan.xorU .u64 (X := (x_224 ^^^ x_227)) (Y := x_230) rfl rfl rfl <| Plan.assign_int rfl rfl <| Plan.nil (k222 _ _ ?_); clear k222
    refine W.seq_k fun _ k232 => W.regionT [(0, true), (1, true), (2, true), (3, true), (4, true), (5, true), (6, true), (7, true), (8, true), (9, true), (10, true)] (by kernel_rfl) ?_
    refine Plan.move_int rfl rfl <| Plan.idxArr1 (j := 5) FRef02.arr144 rfl rfl rfl (by omega) <| Plan.load1 (j := 5) h231 0 rfl rfl rfl (by omega) FRef02.sc67 <| Plan.andU .u64 (X := (m202 4)) (Y := (m202 5)) rfl rfl rfl <| Plan.move_int rfl rfl <| Plan.subU .u64 (X := 4294967295#64) (Y := (m202 4)) rfl rfl rfl <| Plan.idxArr1 (j := 6) FRef02.arr144 rfl rfl rfl (by omega) <| Plan.load1 (j := 6) h231 0 rfl rfl rfl (by omega) FRef02.sc67 ?_
    refine Plan.andU .u64 (X := ((4294967295#64) - (m202 4))) (Y := (m202 6)) rfl rfl rfl <| Plan.xorU .u64 (X := ((m202 4) &&& (m202 5))) (Y := (((4294967295#64) - (m202 4)) &&& (m202 6))) rfl rfl rfl <| Plan.assign_int rfl rfl <| Plan.nil (k232 _ _ ?_); clear k232
    refine W.seq_k fun _ k233 => W.regionT [(0, true), (1, true), (2, true), (3, true), (4, true), (5, true), (6, true), (7, true), (8, true), (9, true), (10, true), (11, true), (12, true), (13, true), (14, true), (15, true)] (by kernel_rfl) ?_
    refine Plan.move_int rfl rfl <| Plan.idxArr1 (j := 1) FRef02.arr144 rfl rfl rfl (by omega) <| Plan.load1 (j := 1) h231 0 rfl rfl rfl (by omega) FRef02.sc67 <| Plan.andU .u64 (X := (m202 0)) (Y := (m202 1)) rfl rfl rfl <| Plan.move_int rfl rfl <| Plan.idxArr1 (j := 2) FRef02.arr144 rfl rfl rfl (by omega) <| Plan.load1 (j := 2) h231 0 rfl rfl rfl (by omega) FRef02.sc67 <| Plan.andU .u64 (X := (m202 0)) (Y := (m202 2)) rfl rfl rfl ?_
    refine Plan.xorU .u64 (X := ((m202 0) &&& (m202 1))) (Y := ((m202 0) &&& (m202 2))) rfl rfl rfl <| Plan.idxArr1 (j := 1) FRef02.arr144 rfl rfl rfl (by omega) <| Plan.load1 (j := 1) h231 0 rfl rfl rfl (by omega) FRef02.sc67 <| Plan.idxArr1 (j := 2) FRef02.arr144 rfl rfl rfl (by omega) <| Plan.load1 (j := 2) h231 0 rfl rfl rfl (by omega) FRef02.sc67 <| Plan.andU .u64 (X := (m202 1)) (Y := (m202 2)) rfl rfl rfl <| Plan.xorU .u64 (X := (((m202 0) &&& (m202 1)) ^^^ ((m202 0) &&& (m202 2)))) (Y := ((m202 1) &&& (m202 2))) rfl rfl rfl <| Plan.assign_int rfl rfl ?_
    refine Plan.nil (k233 _ _ ?_); clear k233
    refine W.seq_k fun _ k234 => ?_
    refine W.regionD FRef02.mixed [(0, true), (1, true), (2, true), (3, true), (4, true), (5, true), (6, true), (7, true), (8, true), (9, true), (10, true), (11, true), (12, true), (13, true), (14, true)] (by kernel_rfl) ?_
    have h235 := h231.drew
    refine Plan.idxArr1 (j := 7) FRef02.arr144 rfl rfl rfl (by omega) <| Plan.load1 (j := 7) h235 0 rfl rfl rfl (by omega) FRef02.sc67 <| Plan.move_int rfl rfl <| Plan.addU .u64 (X := (m202 7)) (Y := ((x_224 ^^^ x_227) ^^^ x_230)) rfl rfl rfl <| Plan.move_int rfl rfl <| Plan.addU .u64 (X := ((m202 7) + ((x_224 ^^^ x_227) ^^^ x_230))) (Y := (((m202 4) &&& (m202 5)) ^^^ (((4294967295#64) - (m202 4)) &&& (m202 6)))) rfl rfl rfl <| Plan.move_int rfl rfl <| Plan.idxArr1 (j := t201) FRef02.arr145 rfl rfl rfl (by omega) ?_
    refine Plan.load1 (j := t201) h235 (iG5 + 4) rfl rfl hG5 (by omega) FRef02.sc67 <| Plan.addU .u64 (X := (((m202 7) + ((x_224 ^^^ x_227) ^^^ x_230)) + (((m202 4) &&& (m202 5)) ^^^ (((4294967295#64) - (m202 4)) &&& (m202 6))))) (Y := (K64 t201)) rfl rfl rfl <| Plan.move_int rfl rfl <| Plan.idxArr1 (j := t201) FRef02.arr145 rfl rfl rfl (by omega) <| Plan.load1 (j := t201) h235 1 rfl rfl rfl (by omega) FRef02.sc67 <| Plan.addU .u64 (X := ((((m202 7) + ((x_224 ^^^ x_227) ^^^ x_230)) + (((m202 4) &&& (m202 5)) ^^^ (((4294967295#64) - (m202 4)) &&& (m202 6)))) + (K64 t201))) (Y := (x_9 t201)) rfl rfl rfl <| Plan.assign_int rfl rfl <| Plan.nil (k234 _ _ ?_); clear k234
    refine W.seq_k fun _ k236 => W.regionT [(0, true), (1, true), (2, true), (3, true)] (by kernel_rfl) ?_
    refine Plan.move_int rfl rfl <| Plan.move_int rfl rfl <| Plan.addU .u64 (X := ((x_214 ^^^ x_217) ^^^ x_220)) (Y := ((((m202 0) &&& (m202 1)) ^^^ ((m202 0) &&& (m202 2))) ^^^ ((m202 1) &&& (m202 2)))) rfl rfl rfl <| Plan.assign_int rfl rfl <| Plan.nil (k236 _ _ ?_); clear k236
    refine W.seq_k fun _ k237 => W.seq_k fun _ k238 => ?_
    refine W.regionT [(0, true)] (by kernel_rfl) ?_
    refine Plan.assign_int rfl rfl <| Plan.nil (k238 _ _ ?_); clear k238
    obtain ⟨m268, hI269, hR0269⟩ := hR
    refine W.cutN (fun e w => ∃ y_m268 : Nat → BitVec 64, m268 = y_m268 ∧ EnvHas e [(2, .pointer (some ⟨b4, 0, none⟩)), (4, .pointer (some ⟨b6, 0, none⟩)), (5, .pointer (some ⟨b11, 0, none⟩)), (6, .pointer (some ⟨b14, 0, none⟩)), (8, VN t201), (15, VU .u64 (((((m202 7) + ((x_224 ^^^ x_227) ^^^ x_230)) + (((m202 4) &&& (m202 5)) ^^^ (((4294967295#64) - (m202 4)) &&& (m202 6)))) + (K64 t201)) + (x_9 t201))), (16, VU .u64 (((x_214 ^^^ x_217) ^^^ x_220) + ((((m202 0) &&& (m202 1)) ^^^ ((m202 0) &&& (m202 2))) ^^^ ((m202 1) &&& (m202 2)))))] ∧ St B w0 (⟨some b14, 0, 8, fun q => VU .u64 (y_m268 q), true⟩ :: ⟨some b11, 0, 64, fun q => VU .u64 (x_9 q), true⟩ :: ⟨some b6, 0, 8, fun q => VU .u32 ((fun _ => 0#32) q), true⟩ :: ⟨some b4, 0, 8, fun q => VU .u32 (state1 q), true⟩ :: L) w) ?_ ?_
    ·
     refine W.block ?_
     refine W.iter hI269 (fun (s269 : (Int × (Nat → BitVec 64))) e w => EnvHas e [(2, .pointer (some ⟨b4, 0, none⟩)), (4, .pointer (some ⟨b6, 0, none⟩)), (5, .pointer (some ⟨b11, 0, none⟩)), (6, .pointer (some ⟨b14, 0, none⟩)), (8, VN t201), (15, VU .u64 (((((m202 7) + ((x_224 ^^^ x_227) ^^^ x_230)) + (((m202 4) &&& (m202 5)) ^^^ (((4294967295#64) - (m202 4)) &&& (m202 6)))) + (K64 t201)) + (x_9 t201))), (16, VU .u64 (((x_214 ^^^ x_217) ^^^ x_220) + ((((m202 0) &&& (m202 1)) ^^^ ((m202 0) &&& (m202 2))) ^^^ ((m202 1) &&& (m202 2))))), (17, .int .i64 s269.1)] ∧ St B w0 (⟨some b14, 0, 8, fun q => VU .u64 (s269.2 q), true⟩ :: ⟨some b11, 0, 64, fun q => VU .u64 (x_9 q), true⟩ :: ⟨some b6, 0, 8, fun q => VU .u32 ((fun _ => 0#32) q), true⟩ :: ⟨some b4, 0, 8, fun q => VU .u32 (state1 q), true⟩ :: L) w) ⟨(zer (zer (zer (zer (zer (zer (zer (zer zen)))))))), h235⟩ ?_
     rintro ⟨i_266, m267⟩ o269 hR hx269 ev270 wl270 ⟨he270, h270⟩
     obtain ⟨ev270, rfl⟩ := he270.open
     unfold letheref02_Block_l2 at hR
     refine W.seq_k fun _ k271 => W.seq_k fun _ k272 => ?_
     refine W.regionT [(0, true), (1, true)] (by kernel_rfl) ?_
     refine Plan.move_int rfl rfl <| Plan.cmpP (a := (i_266 : Int)) (b := (0 : Int)) (p := 0 < i_266) rfl rfl rfl rfl icmp_gt <| Plan.nil (k272 _ _ ?_); clear k272
     by_cases hc273 : 0 < i_266
     ·
      replace hR := ifT hR hc273
      refine W.condT (congrArg Value.bool (decide_eq_true hc273)) ?_
      refine W.skip ?_
      refine k271 _ _ ?_; clear k271
      refine W.seq_k fun _ k274 => ?_
      refine W.block ?_
      refine W.regionT [(0, true), (1, true), (2, true), (3, true), (4, true), (5, true), (6, false)] (by kernel_rfl) ?_
      refine Plan.move_int rfl rfl <| Plan.move_int rfl rfl ?_
      obtain ⟨hc275, hR⟩ := hR
      refine Plan.subI (a := i_266) (b := 1) rfl rfl rfl (by omega) ?_
      obtain ⟨hc276, hR⟩ := hR
      refine Plan.idxArr1 (j := (i_266 - 1).toNat) FRef02.arr144 rfl rfl (congrArg (Value.int .i64) (Int.toNat_of_nonneg hc276.1).symm) (by omega) <| Plan.load1 (j := (i_266 - 1).toNat) h270 0 rfl rfl rfl (by omega) FRef02.sc67 ?_
      obtain ⟨hc277, hR⟩ := hR
      refine Plan.idxArr1 (j := i_266.toNat) FRef02.arr144 rfl rfl (congrArg (Value.int .i64) (Int.toNat_of_nonneg hc277.1).symm) (by omega) ?_
      refine Plan.storeU (j := i_266.toNat) (X := (m267 ((i_266 - 1).toNat))) h270 0 rfl rfl rfl rfl (by omega) FRef02.sz67 rfl fun w278 h278 => ?_
      simp only [zca, zna, zsz, zss] at h278
      refine Plan.nil ?_
      refine blockR_norm ?_
      refine k274 _ _ ?_; clear k274
      refine W.regionT [(0, true), (1, true), (2, true)] (by kernel_rfl) ?_
      refine Plan.move_int rfl rfl ?_
      obtain ⟨hc279, hR⟩ := hR
      refine Plan.subI (a := i_266) (b := 1) rfl rfl rfl (by omega) <| Plan.assign_int rfl rfl <| Plan.nil ?_
      exact iterR_norm ⟨_, hR, (zer (zer (zer (zer (zer (zer (zer (zer zen)))))))), h278⟩
     ·
      replace hR := ifF hR hc273
      refine W.condF (congrArg Value.bool (decide_eq_false hc273)) ?_
      refine W.exit (thenR_exit (iterR_exit (blockR_here ?_)))
      exact ⟨m267, (hx269 _ hR).symm, (zer (zer (zer (zer (zer (zer (zer zen))))))), h270⟩
    ·
     rintro ev280 wl280 ⟨y_m268, hy280, he280, h280⟩
     obtain ⟨ev280, rfl⟩ := he280.open
     subst hy280
     replace hR := hR0269
     refine k237 _ _ ?_; clear k237
     refine W.seq_k fun _ k281 => W.regionT [(0, true), (1, true), (2, true), (3, true), (4, true), (5, true), (6, false)] (by kernel_rfl) ?_
     refine Plan.idxArr1 (j := 4) FRef02.arr144 rfl rfl rfl (by omega) <| Plan.load1 (j := 4) h280 0 rfl rfl rfl (by omega) FRef02.sc67 <| Plan.move_int rfl rfl <| Plan.addU .u64 (X := (m268 4)) (Y := (((((m202 7) + ((x_224 ^^^ x_227) ^^^ x_230)) + (((m202 4) &&& (m202 5)) ^^^ (((4294967295#64) - (m202 4)) &&& (m202 6)))) + (K64 t201)) + (x_9 t201))) rfl rfl rfl <| Plan.remU .u64 (X := ((m268 4) + (((((m202 7) + ((x_224 ^^^ x_227) ^^^ x_230)) + (((m202 4) &&& (m202 5)) ^^^ (((4294967295#64) - (m202 4)) &&& (m202 6)))) + (K64 t201)) + (x_9 t201)))) (Y := 4294967296#64) rfl rfl rfl (by decide) <| Plan.idxArr1 (j := 4) FRef02.arr144 rfl rfl rfl (by omega) ?_
     refine Plan.storeU (j := 4) (X := (((m268 4) + (((((m202 7) + ((x_224 ^^^ x_227) ^^^ x_230)) + (((m202 4) &&& (m202 5)) ^^^ (((4294967295#64) - (m202 4)) &&& (m202 6)))) + (K64 t201)) + (x_9 t201))) % (4294967296#64))) h280 0 rfl rfl rfl rfl (by omega) FRef02.sz67 rfl fun w282 h282 => ?_
     simp only [zca, zna, zsz, zss] at h282
     refine Plan.nil (k281 _ _ ?_); clear k281
     refine W.regionT [(0, true), (1, true), (2, true), (3, true), (4, true), (5, false)] (by kernel_rfl) ?_
     refine Plan.move_int rfl rfl <| Plan.move_int rfl rfl <| Plan.addU .u64 (X := (((((m202 7) + ((x_224 ^^^ x_227) ^^^ x_230)) + (((m202 4) &&& (m202 5)) ^^^ (((4294967295#64) - (m202 4)) &&& (m202 6)))) + (K64 t201)) + (x_9 t201))) (Y := (((x_214 ^^^ x_217) ^^^ x_220) + ((((m202 0) &&& (m202 1)) ^^^ ((m202 0) &&& (m202 2))) ^^^ ((m202 1) &&& (m202 2))))) rfl rfl rfl <| Plan.remU .u64 (X := ((((((m202 7) + ((x_224 ^^^ x_227) ^^^ x_230)) + (((m202 4) &&& (m202 5)) ^^^ (((4294967295#64) - (m202 4)) &&& (m202 6)))) + (K64 t201)) + (x_9 t201)) + (((x_214 ^^^ x_217) ^^^ x_220) + ((((m202 0) &&& (m202 1)) ^^^ ((m202 0) &&& (m202 2))) ^^^ ((m202 1) &&& (m202 2)))))) (Y := 4294967296#64) rfl rfl rfl (by decide) <| Plan.idxArr1 (j := 0) FRef02.arr144 rfl rfl rfl (by omega) ?_
     refine Plan.storeU (j := 0) (X := (((((((m202 7) + ((x_224 ^^^ x_227) ^^^ x_230)) + (((m202 4) &&& (m202 5)) ^^^ (((4294967295#64) - (m202 4)) &&& (m202 6)))) + (K64 t201)) + (x_9 t201)) + (((x_214 ^^^ x_217) ^^^ x_220) + ((((m202 0) &&& (m202 1)) ^^^ ((m202 0) &&& (m202 2))) ^^^ ((m202 1) &&& (m202 2))))) % (4294967296#64))) h282 0 rfl rfl rfl rfl (by omega) FRef02.sz67 rfl fun w283 h283 => ?_
     simp only [zca, zna, zsz, zss] at h283
     refine Plan.nil ?_
     refine blockR_norm ?_
     refine k209 _ _ ?_; clear k209
     refine W.regionT [(0, true), (1, true), (2, true)] (by kernel_rfl) ?_
     refine Plan.move_int rfl rfl <| Plan.addN (a := t201) (b := 1) rfl rfl rfl (by omega) <| Plan.assign_int rfl rfl <| Plan.nil ?_
     exact iterR_norm ⟨_, hR, (zer (zer (zer (zer (zer zen))))), h283⟩
   ·
    replace hR := ifF hR hc208
    refine W.condF (congrArg Value.bool (decide_eq_false hc208)) ?_
    refine W.exit (thenR_exit (iterR_exit (blockR_here ?_)))
    have h284 := St.pickT (C := [_, _, _, _]) h205 [0, 2, 3] (by decide)
    simp only [pick, zfc, zfn, zgz, zgs, zca, zna] at h284
    exact ⟨m202, (hx204 _ hR).symm, (zer (zer (zer zen))), h284⟩
  ·
   rintro ev285 wl285 ⟨y_m203, hy285, he285, h285⟩
   obtain ⟨ev285, rfl⟩ := he285.open
   subst hy285
   replace hR := hR0204
   refine k41 _ _ ?_; clear k41
   refine W.seq_k fun _ k286 => W.seq_k fun _ k287 => ?_
   refine W.regionT [(0, true)] (by kernel_rfl) ?_
   refine Plan.assign_int rfl rfl <| Plan.nil (k287 _ _ ?_); clear k287
   obtain ⟨m304, hI305, hR0305⟩ := hR
   refine W.cutN (fun e w => ∃ y_m304 : Nat → BitVec 32, m304 = y_m304 ∧ EnvHas e [(2, .pointer (some ⟨b4, 0, none⟩)), (4, .pointer (some ⟨b6, 0, none⟩))] ∧ St B w0 (⟨some b6, 0, 8, fun q => VU .u32 ((fun _ => 0#32) q), true⟩ :: ⟨some b4, 0, 8, fun q => VU .u32 (y_m304 q), true⟩ :: L) w) ?_ ?_
   ·
    refine W.block ?_
    refine W.iter hI305 (fun (s305 : (Nat × (Nat → BitVec 32))) e w => EnvHas e [(2, .pointer (some ⟨b4, 0, none⟩)), (4, .pointer (some ⟨b6, 0, none⟩)), (6, .pointer (some ⟨b14, 0, none⟩)), (18, VN s305.1)] ∧ St B w0 (⟨some b14, 0, 8, fun q => VU .u64 (m203 q), true⟩ :: ⟨some b6, 0, 8, fun q => VU .u32 ((fun _ => 0#32) q), true⟩ :: ⟨some b4, 0, 8, fun q => VU .u32 (s305.2 q), true⟩ :: L) w) ⟨(zer (zer (zer (zer zen)))), h285⟩ ?_
    rintro ⟨i_302, m303⟩ o305 hR hx305 ev306 wl306 ⟨he306, h306⟩
    obtain ⟨ev306, rfl⟩ := he306.open
    unfold letheref02_Block_l3 at hR
    refine W.seq_k fun _ k307 => W.seq_k fun _ k308 => ?_
    refine W.regionT [(0, true), (1, true)] (by kernel_rfl) ?_
    refine Plan.move_int rfl rfl <| Plan.cmpP (a := (((i_302 : Nat) : Int) : Int)) (b := (8 : Int)) (p := i_302 < 8) rfl rfl rfl rfl icmp_ltN <| Plan.nil (k308 _ _ ?_); clear k308
    by_cases hc309 : i_302 < 8
    ·
     replace hR := ifT hR hc309
     refine W.condT (congrArg Value.bool (decide_eq_true hc309)) ?_
     refine W.skip ?_
     refine k307 _ _ ?_; clear k307
     refine W.seq_k fun _ k310 => ?_
     refine W.block ?_
     refine W.regionD FRef02.mixed [(0, true), (1, true), (2, true), (3, true), (4, true), (5, true), (6, true), (7, true), (8, true), (9, true), (10, true), (11, true), (12, false)] (by kernel_rfl) ?_
     have h311 := h306.drew
     refine Plan.move_int rfl rfl <| Plan.move_int rfl rfl <| Plan.idxArr1 (j := i_302) FRef02.arr118 rfl rfl rfl (by omega) <| Plan.load1 (j := i_302) h311 2 rfl rfl rfl (by omega) FRef02.sc26 <| Plan.convUU .u64 (X := (m303 i_302)) FRef02.u67 FRef02.some26 rfl rfl <| Plan.move_int rfl rfl <| Plan.idxArr1 (j := i_302) FRef02.arr144 rfl rfl rfl (by omega) <| Plan.load1 (j := i_302) h311 0 rfl rfl rfl (by omega) FRef02.sc67 ?_
     refine Plan.addU .u64 (X := ((m303 i_302).setWidth 64)) (Y := (m203 i_302)) rfl rfl rfl <| Plan.remU .u64 (X := (((m303 i_302).setWidth 64) + (m203 i_302))) (Y := 4294967296#64) rfl rfl rfl (by decide) <| Plan.convUU .u32 (X := ((((m303 i_302).setWidth 64) + (m203 i_302)) % (4294967296#64))) FRef02.u26 FRef02.some67 rfl rfl <| Plan.idxArr1 (j := i_302) FRef02.arr118 rfl rfl rfl (by omega) ?_
     refine Plan.storeU (j := i_302) (X := (((((m303 i_302).setWidth 64) + (m203 i_302)) % (4294967296#64)).setWidth 32)) h311 2 rfl rfl rfl rfl (by omega) FRef02.sz26 rfl fun w312 h312 => ?_
     simp only [zca, zna, zsz, zss] at h312
     refine Plan.nil ?_
     refine blockR_norm ?_
     refine k310 _ _ ?_; clear k310
     refine W.regionT [(0, true), (1, true), (2, true)] (by kernel_rfl) ?_
     refine Plan.move_int rfl rfl <| Plan.addN (a := i_302) (b := 1) rfl rfl rfl (by omega) <| Plan.assign_int rfl rfl <| Plan.nil ?_
     exact iterR_norm ⟨_, hR, (zer (zer (zer (zer zen)))), h312⟩
    ·
     replace hR := ifF hR hc309
     refine W.condF (congrArg Value.bool (decide_eq_false hc309)) ?_
     refine W.exit (thenR_exit (iterR_exit (blockR_here ?_)))
     have h313 := St.pickT (C := [_, _, _]) h306 [1, 2] (by decide)
     simp only [pick, zfc, zfn, zgz, zgs, zca, zna] at h313
     exact ⟨m303, (hx305 _ hR).symm, (zer (zer zen)), h313⟩
   ·
    rintro ev314 wl314 ⟨y_m304, hy314, he314, h314⟩
    obtain ⟨ev314, rfl⟩ := he314.open
    subst hy314
    replace hR := hR0305
    refine k286 _ _ ?_; clear k286
    refine W.seq_k fun _ k315 => W.regionT [(0, true), (1, false)] (by kernel_rfl) ?_
    refine Plan.loadA1 h314 1 rfl rfl rfl FRef02.agg118 ?_
    refine Plan.storeA (f' := fun q => VU .u32 (m304 q)) h314 0 rfl rfl rfl rfl (fun _ _ => rfl) FRef02.sz118 rfl fun w316 h316 => ?_
    simp only [zca, zna, zsz, zss] at h316
    refine Plan.nil (k315 _ _ ?_); clear k315
    refine W.ret (finR_ret ?_)
    have h317 := St.pickT (C := [_, _]) h316 [] (by decide)
    simp only [pick, zfc, zfn, zgz, zgs, zca, zna] at h317
    subst r
    refine RetOk.mk (.agg h316 rfl (.cons 0 rfl .nil) FRef02.agg118 .nil) ?_
    exact ⟨rfl, h317⟩
theorem letheref02_bytesOf_ok {B : Nat} {w0 w : World} {L : List Rg} {state1 : Nat → BitVec 32} {r : (Nat → BitVec 8)} (hR : letheref02_bytesOf state1 r) (HST : St B w0 (L) w) :
  Calls Tryd.prog 82 #[AG [(8, fun q => VU .u32 (state1 q))]] w fun e w' => e = .returned (AG [(32, fun q => VU .u8 (r q))]) ∧ St B w0 (L) w' := by
 refine W.enter 29 Tryd.func82 rfl rfl rfl ?_
 unfold letheref02_bytesOf at hR
 refine W.seq_k fun _ k2 => W.regionT [(0, false), (1, false)] (by kernel_rfl) ?_
 refine Plan.boxA HST rfl rfl PIn.nil fun b3 w3 hb3 h3 => ?_
 simp only [rngs, Nat.zero_add, Nat.reduceAdd, zca, zna] at h3
 refine Plan.alloc h3 rfl FRef02.z22 PIn.nil fun b4 w4 hb4 h4 => ?_
 simp only [rngs, Nat.zero_add, Nat.reduceAdd, zca, zna] at h4
 refine Plan.nil (k2 _ _ ?_); clear k2
 refine W.seq_k fun _ k5 => W.regionT [(0, false)] (by kernel_rfl) ?_
 refine Plan.alloc h4 rfl FRef02.z22 PIn.nil fun b6 w6 hb6 h6 => ?_
 simp only [rngs, Nat.zero_add, Nat.reduceAdd, zca, zna] at h6
 refine Plan.nil (k5 _ _ ?_); clear k5
 refine W.seq_k fun _ k7 => W.seq_k fun _ k8 => ?_
 refine W.regionT [(0, true)] (by kernel_rfl) ?_
 refine Plan.assign_int rfl rfl <| Plan.nil (k8 _ _ ?_); clear k8
 obtain ⟨m117, hI118, hR0118⟩ := hR
 refine W.cutN (fun e w => ∃ y_m117 : Nat → BitVec 8, m117 = y_m117 ∧ EnvHas e [(2, .pointer (some ⟨b4, 0, none⟩)), (3, .pointer (some ⟨b6, 0, none⟩))] ∧ St B w0 (⟨some b6, 0, 32, fun q => VU .u8 (y_m117 q), true⟩ :: ⟨some b4, 0, 32, fun q => VU .u8 ((fun _ => 0#8) q), true⟩ :: L) w) ?_ ?_
 ·
  refine W.block ?_
  refine W.iter hI118 (fun (s118 : (Nat × (Nat → BitVec 8))) e w => EnvHas e [(1, .pointer (some ⟨b3, 0, none⟩)), (2, .pointer (some ⟨b4, 0, none⟩)), (3, .pointer (some ⟨b6, 0, none⟩)), (4, VN s118.1)] ∧ St B w0 (⟨some b6, 0, 32, fun q => VU .u8 (s118.2 q), true⟩ :: ⟨some b4, 0, 32, fun q => VU .u8 ((fun _ => 0#8) q), true⟩ :: ⟨some b3, 0, 8, fun q => VU .u32 (state1 q), true⟩ :: L) w) ⟨(zer (zer (zer (zer zen)))), h6⟩ ?_
  rintro ⟨i_115, m116⟩ o118 hR hx118 ev119 wl119 ⟨he119, h119⟩
  obtain ⟨ev119, rfl⟩ := he119.open
  unfold letheref02_bytesOf_l0 at hR
  refine W.seq_k fun _ k120 => W.seq_k fun _ k121 => ?_
  refine W.regionT [(0, true), (1, true)] (by kernel_rfl) ?_
  refine Plan.move_int rfl rfl <| Plan.cmpP (a := (((i_115 : Nat) : Int) : Int)) (b := (8 : Int)) (p := i_115 < 8) rfl rfl rfl rfl icmp_ltN <| Plan.nil (k121 _ _ ?_); clear k121
  by_cases hc122 : i_115 < 8
  ·
   replace hR := ifT hR hc122
   refine W.condT (congrArg Value.bool (decide_eq_true hc122)) ?_
   refine W.skip ?_
   refine k120 _ _ ?_; clear k120
   refine W.seq_k fun _ k123 => ?_
   refine W.block ?_
   refine W.seq_k fun _ k124 => W.regionT [(0, true), (1, true), (2, true), (3, true)] (by kernel_rfl) ?_
   refine Plan.move_int rfl rfl <| Plan.idxArr1 (j := i_115) FRef02.arr118 rfl rfl rfl (by omega) <| Plan.load1 (j := i_115) h119 2 rfl rfl rfl (by omega) FRef02.sc26 <| Plan.assign_int rfl rfl <| Plan.nil (k124 _ _ ?_); clear k124
   refine W.seq_k fun _ k125 => W.regionT [(0, true)] (by kernel_rfl) ?_
   refine Plan.assign_int rfl rfl <| Plan.nil (k125 _ _ ?_); clear k125
   obtain ⟨m159, hI160, hR0160⟩ := hR
   refine W.cutN (fun e w => ∃ y_m159 : Nat → BitVec 8, m159 = y_m159 ∧ EnvHas e [(1, .pointer (some ⟨b3, 0, none⟩)), (2, .pointer (some ⟨b4, 0, none⟩)), (3, .pointer (some ⟨b6, 0, none⟩)), (4, VN i_115)] ∧ St B w0 (⟨some b6, 0, 32, fun q => VU .u8 (y_m159 q), true⟩ :: ⟨some b4, 0, 32, fun q => VU .u8 ((fun _ => 0#8) q), true⟩ :: ⟨some b3, 0, 8, fun q => VU .u32 (state1 q), true⟩ :: L) w) ?_ ?_
   ·
    refine W.block ?_
    refine W.iter hI160 (fun (s160 : ((BitVec 32) × Int × (Nat → BitVec 8))) e w => EnvHas e [(1, .pointer (some ⟨b3, 0, none⟩)), (2, .pointer (some ⟨b4, 0, none⟩)), (3, .pointer (some ⟨b6, 0, none⟩)), (4, VN i_115), (5, VU .u32 s160.1), (6, .int .i64 s160.2.1)] ∧ St B w0 (⟨some b6, 0, 32, fun q => VU .u8 (s160.2.2 q), true⟩ :: ⟨some b4, 0, 32, fun q => VU .u8 ((fun _ => 0#8) q), true⟩ :: ⟨some b3, 0, 8, fun q => VU .u32 (state1 q), true⟩ :: L) w) ⟨(zer (zer (zer (zer (zer (zer zen)))))), h119⟩ ?_
    rintro ⟨v156, k157, m158⟩ o160 hR hx160 ev161 wl161 ⟨he161, h161⟩
    obtain ⟨ev161, rfl⟩ := he161.open
    unfold letheref02_bytesOf_l1 at hR
    refine W.seq_k fun _ k162 => W.seq_k fun _ k163 => ?_
    refine W.regionT [(0, true), (1, true)] (by kernel_rfl) ?_
    refine Plan.move_int rfl rfl <| Plan.cmpP (a := (k157 : Int)) (b := (0 : Int)) (p := 0 ≤ k157) rfl rfl rfl rfl icmp_ge <| Plan.nil (k163 _ _ ?_); clear k163
    by_cases hc164 : 0 ≤ k157
    ·
     replace hR := ifT hR hc164
     refine W.condT (congrArg Value.bool (decide_eq_true hc164)) ?_
     refine W.skip ?_
     refine k162 _ _ ?_; clear k162
     refine W.seq_k fun _ k165 => ?_
     refine W.block ?_
     refine W.seq_k fun _ k166 => W.regionT [(0, true), (1, true), (2, true), (3, true), (4, true), (5, true), (6, true), (7, true), (8, false)] (by kernel_rfl) ?_
     refine Plan.move_int rfl rfl <| Plan.mulN (a := 4) (b := i_115) rfl rfl rfl (by omega) <| Plan.move_int rfl rfl ?_
     obtain ⟨hc167, hR⟩ := hR
     refine Plan.addI (a := (((4 * i_115) : Nat) : Int)) (b := k157) rfl rfl rfl (by omega) <| Plan.move_int rfl rfl <| Plan.remU .u32 (X := v156) (Y := 256#32) rfl rfl rfl (by decide) <| Plan.convUU .u8 (X := (v156 % (256#32))) FRef02.u5 FRef02.some26 rfl rfl ?_
     obtain ⟨hc168, hR⟩ := hR
     refine Plan.idxArr1 (j := ((((4 * i_115) : Nat) : Int) + k157).toNat) FRef02.arr22 rfl rfl (congrArg (Value.int .i64) (Int.toNat_of_nonneg hc168.1).symm) (by omega) ?_
     refine Plan.storeU (j := ((((4 * i_115) : Nat) : Int) + k157).toNat) (X := ((v156 % (256#32)).setWidth 8)) h161 0 rfl rfl rfl rfl (by omega) FRef02.sz5 rfl fun w169 h169 => ?_
     simp only [zca, zna, zsz, zss] at h169
     refine Plan.nil (k166 _ _ ?_); clear k166
     refine W.regionT [(0, true), (1, true), (2, true)] (by kernel_rfl) ?_
     refine Plan.move_int rfl rfl <| Plan.quoU .u32 (X := v156) (Y := 256#32) rfl rfl rfl (by decide) <| Plan.assign_int rfl rfl <| Plan.nil ?_
     refine blockR_norm ?_
     refine k165 _ _ ?_; clear k165
     refine W.regionT [(0, true), (1, true), (2, true)] (by kernel_rfl) ?_
     refine Plan.move_int rfl rfl ?_
     obtain ⟨hc170, hR⟩ := hR
     refine Plan.subI (a := k157) (b := 1) rfl rfl rfl (by omega) <| Plan.assign_int rfl rfl <| Plan.nil ?_
     exact iterR_norm ⟨_, hR, (zer (zer (zer (zer (zer (zer zen)))))), h169⟩
    ·
     replace hR := ifF hR hc164
     refine W.condF (congrArg Value.bool (decide_eq_false hc164)) ?_
     refine W.exit (thenR_exit (iterR_exit (blockR_here ?_)))
     exact ⟨m158, (hx160 _ hR).symm, (zer (zer (zer (zer zen)))), h161⟩
   ·
    rintro ev171 wl171 ⟨y_m159, hy171, he171, h171⟩
    obtain ⟨ev171, rfl⟩ := he171.open
    subst hy171
    replace hR := hR0160
    refine blockR_norm ?_
    refine k123 _ _ ?_; clear k123
    refine W.regionT [(0, true), (1, true), (2, true)] (by kernel_rfl) ?_
    refine Plan.move_int rfl rfl <| Plan.addN (a := i_115) (b := 1) rfl rfl rfl (by omega) <| Plan.assign_int rfl rfl <| Plan.nil ?_
    exact iterR_norm ⟨_, hR, (zer (zer (zer (zer zen)))), h171⟩
  ·
   replace hR := ifF hR hc122
   refine W.condF (congrArg Value.bool (decide_eq_false hc122)) ?_
   refine W.exit (thenR_exit (iterR_exit (blockR_here ?_)))
   have h172 := St.pickT (C := [_, _, _]) h119 [0, 1] (by decide)
   simp only [pick, zfc, zfn, zgz, zgs, zca, zna] at h172
   exact ⟨m116, (hx118 _ hR).symm, (zer (zer zen)), h172⟩
 ·
  rintro ev173 wl173 ⟨y_m117, hy173, he173, h173⟩
  obtain ⟨ev173, rfl⟩ := he173.open
  subst hy173
  replace hR := hR0118
  refine k7 _ _ ?_; clear k7
  refine W.seq_k fun _ k174 => W.regionT [(0, true), (1, false)] (by kernel_rfl) ?_
  refine Plan.loadA1 h173 0 rfl rfl rfl FRef02.agg22 ?_
  refine Plan.storeA (f' := fun q => VU .u8 (m117 q)) h173 1 rfl rfl rfl rfl (fun _ _ => rfl) FRef02.sz22 rfl fun w175 h175 => ?_
  simp only [zca, zna, zsz, zss] at h175
  refine Plan.nil (k174 _ _ ?_); clear k174
  refine W.ret (finR_ret ?_)
  have h176 := St.pickT (C := [_, _]) h175 [] (by decide)
  simp only [pick, zfc, zfn, zgz, zgs, zca, zna] at h176
  subst r
  refine RetOk.mk (.agg h175 rfl (.cons 1 rfl .nil) FRef02.agg22 .nil) ?_
  exact ⟨rfl, h176⟩
theorem letheref02_Sum_ok {B : Nat} {w0 w : World} {L : List Rg} {iG4 : Nat} (hG4 : L[iG4]? = some ⟨some 4, 0, 8, fun q => VU .u64 (H64 q), false⟩) {iG5 : Nat} (hG5 : L[iG5]? = some ⟨some 5, 0, 64, fun q => VU .u64 (K64 q), false⟩) {m1 : List Byte} {am1 : Option Addr} {nm1 cm1 im1 : Nat} (hm1 : Bx L im1 am1 nm1 cm1 m1) {r : (Nat → BitVec 8)} (hR : letheref02_Sum m1 r) (HST : St B w0 (L) w) :
  Calls Tryd.prog 76 #[.slice am1 nm1 cm1] w fun e w' => e = .returned (AG [(32, fun q => VU .u8 (r q))]) ∧ St B w0 (L) w' := by
 refine W.enter 23 Tryd.func76 rfl rfl rfl ?_
 unfold letheref02_Sum at hR
 have em1 := hm1.hl; subst em1
 refine W.seq_k fun _ k2 => W.regionT [(0, false)] (by kernel_rfl) ?_
 refine Plan.alloc HST rfl FRef02.z22 PIn.nil fun b3 w3 hb3 h3 => ?_
 simp only [rngs, Nat.zero_add, Nat.reduceAdd, zca, zna] at h3
 refine Plan.nil (k2 _ _ ?_); clear k2
 refine W.seq_k fun _ k4 => W.regionT [(0, true), (1, false), (2, true)] (by kernel_rfl) ?_
 refine Plan.move_slice rfl rfl ?_
 obtain ⟨x_6, hr5, hR⟩ := hR
 refine Plan.call (vs := [.slice am1 m1.length cm1]) rfl FRef02.call78 rfl (letheref02_padded_ok (hm1.app [_]) hr5 h3) ?_
 rintro _ w12 ⟨ay0_7, py0_8, ny0_9, cy0_10, Fy0_11, rfl, h12, hf12_0⟩
 obtain rfl := hf12_0.hl
 refine ⟨_, rfl, .inl ⟨PIn.keep PIn.nil h12, ?_⟩⟩
 refine Plan.assign_slice rfl rfl <| Plan.nil (k4 _ _ ?_); clear k4
 refine W.seq_k fun _ k13 => W.regionT [(0, false), (1, false), (2, false)] (by kernel_rfl) ?_
 obtain ⟨x_15, hr14, hR⟩ := hR
 refine Plan.call (vs := []) rfl FRef02.call79 rfl (letheref02_Begin_ok (iG4 := iG4 + 2) hG4 hr14 h12) ?_
 rintro _ w16 ⟨rfl, h16⟩
 refine ⟨_, rfl, .inl ⟨PIn.keep PIn.nil h16, ?_⟩⟩
 refine Plan.alloc h16 rfl FRef02.z118 PIn.nil fun b17 w17 hb17 h17 => ?_
 simp only [rngs, Nat.zero_add, Nat.reduceAdd, zca, zna] at h17
 refine Plan.storeA (f' := fun q => VU .u32 (x_15 q)) h17 0 rfl rfl rfl rfl (fun _ _ => rfl) FRef02.sz118 rfl fun w18 h18 => ?_
 simp only [zca, zna, zsz, zss] at h18
 refine Plan.nil (k13 _ _ ?_); clear k13
 refine W.seq_k fun _ k19 => W.seq_k fun _ k20 => ?_
 refine W.regionT [(0, true)] (by kernel_rfl) ?_
 refine Plan.assign_int rfl rfl <| Plan.nil (k20 _ _ ?_); clear k20
 obtain ⟨m55, hI56, hR056⟩ := hR
 refine W.cutN (fun e w => ∃ y_m55 : Nat → BitVec 32, m55 = y_m55 ∧ EnvHas e [(2, .pointer (some ⟨b3, 0, none⟩)), (4, .pointer (some ⟨b17, 0, none⟩))] ∧ St B w0 (⟨some b17, 0, 8, fun q => VU .u32 (y_m55 q), true⟩ :: ⟨some b3, 0, 32, fun q => VU .u8 ((fun _ => 0#8) q), true⟩ :: L) w) ?_ ?_
 ·
  refine W.block ?_
  have h57 := St.pickT (C := [_, _, _]) h18 [1, 0, 2] (by decide)
  simp only [pick, zfc, zfn, zgz, zgs, zca, zna] at h57
  refine W.iter hI56 (fun (s56 : ((List Byte) × Nat × (Nat → BitVec 32))) e w => ∃ ab52 : Option Addr, ∃ pb52 : Option Nat, ∃ cb52 : Nat, ∃ Fb52 : Nat → Byte, EnvHas e [(2, .pointer (some ⟨b3, 0, none⟩)), (3, .slice ab52 x_6.length cb52), (4, .pointer (some ⟨b17, 0, none⟩)), (5, VN s56.2.1)] ∧ St B w0 (⟨pb52, 0, cb52, fun q => VU .u8 (Fb52 q), true⟩ :: ⟨some b17, 0, 8, fun q => VU .u32 (s56.2.2 q), true⟩ :: ⟨some b3, 0, 32, fun q => VU .u8 ((fun _ => 0#8) q), true⟩ :: L) w ∧ Ow ab52 pb52 x_6.length cb52 Fb52 s56.1) ⟨ay0_7, py0_8, cy0_10, Fy0_11, (zer (zer (zer (zer zen)))), h57, hf12_0⟩ ?_
  rintro ⟨b52, i_53, m54⟩ o56 hR hx56 ev58 wl58 ⟨ab52, pb52, cb52, Fb52, he58, h58, hb52⟩
  obtain ⟨ev58, rfl⟩ := he58.open
  unfold letheref02_Sum_l0 at hR
  refine W.seq_k fun _ k59 => W.seq_k fun _ k60 => ?_
  refine W.regionT [(0, true), (1, true), (2, true), (3, true), (4, true)] (by kernel_rfl) ?_
  refine Plan.move_int rfl rfl <| Plan.move_slice rfl rfl <| Plan.len FRef02.isl40 rfl rfl ?_
  obtain ⟨hc61, hR⟩ := hR
  refine Plan.quoN (a := x_6.length) (b := 64) rfl rfl rfl (by omega) <| Plan.cmpP (a := (((i_53 : Nat) : Int) : Int)) (b := ((((x_6.length / 64) : Nat) : Int) : Int)) (p := i_53 < (x_6.length / 64)) rfl rfl rfl rfl icmp_ltN <| Plan.nil (k60 _ _ ?_); clear k60
  by_cases hc62 : i_53 < (x_6.length / 64)
  ·
   replace hR := ifT hR hc62
   refine W.condT (congrArg Value.bool (decide_eq_true hc62)) ?_
   refine W.skip ?_
   refine k59 _ _ ?_; clear k59
   refine W.seq_k fun _ k63 => ?_
   refine W.block ?_
   refine W.regionD FRef02.mixed [(0, true), (1, true), (2, true), (3, false), (4, false), (5, false)] (by kernel_rfl) ?_
   have h64 := h58.drew
   refine Plan.loadA1 h64 1 rfl rfl rfl FRef02.agg118 <| Plan.move_slice rfl rfl <| Plan.move_int rfl rfl ?_
   obtain ⟨x_66, hr65, hR⟩ := hR
   refine Plan.call (vs := [.slice ab52 x_6.length cb52, VN i_53]) rfl FRef02.call81 rfl (letheref02_At_ok (by exact (hb52.bx 0 rfl)) hr65 h64) ?_
   rintro _ w67 ⟨rfl, h67⟩
   refine ⟨_, rfl, .inl ⟨PIn.keep (PIn.cons 1 rfl PIn.nil) h67, ?_⟩⟩
   obtain ⟨x_69, hr68, hR⟩ := hR
   refine Plan.call (vs := [AG [(8, fun q => VU .u32 (m54 q))], AG [(64, fun q => VU .u8 (x_66 q))]]) rfl FRef02.call80 rfl (letheref02_Block_ok (iG5 := iG5 + 3) hG5 hr68 h67) ?_
   rintro _ w70 ⟨rfl, h70⟩
   refine ⟨_, rfl, .inr ⟨rfl, ?_⟩⟩
   refine Plan.storeA (f' := fun q => VU .u32 (x_69 q)) h70 1 rfl rfl rfl rfl (fun _ _ => rfl) FRef02.sz118 rfl fun w71 h71 => ?_
   simp only [zca, zna, zsz, zss] at h71
   refine Plan.nil ?_
   refine blockR_norm ?_
   refine k63 _ _ ?_; clear k63
   refine W.regionT [(0, true), (1, true), (2, true)] (by kernel_rfl) ?_
   refine Plan.move_int rfl rfl ?_
   obtain ⟨hc72, hR⟩ := hR
   refine Plan.addN (a := i_53) (b := 1) rfl rfl rfl (by omega) <| Plan.assign_int rfl rfl <| Plan.nil ?_
   exact iterR_norm ⟨_, hR, ab52, pb52, cb52, Fb52, (zer (zer (zer (zer zen)))), h71, hb52⟩
  ·
   replace hR := ifF hR hc62
   refine W.condF (congrArg Value.bool (decide_eq_false hc62)) ?_
   refine W.exit (thenR_exit (iterR_exit (blockR_here ?_)))
   have h73 := St.pickT (C := [_, _, _]) h58 [1, 2] (by decide)
   simp only [pick, zfc, zfn, zgz, zgs, zca, zna] at h73
   exact ⟨m54, (hx56 _ hR).symm, (zer (zer zen)), h73⟩
 ·
  rintro ev74 wl74 ⟨y_m55, hy74, he74, h74⟩
  obtain ⟨ev74, rfl⟩ := he74.open
  subst hy74
  replace hR := hR056
  refine k19 _ _ ?_; clear k19
  refine W.seq_k fun _ k75 => W.regionT [(0, true), (1, false), (2, false)] (by kernel_rfl) ?_
  refine Plan.loadA1 h74 0 rfl rfl rfl FRef02.agg118 ?_
  obtain ⟨x_77, hr76, hR⟩ := hR
  refine Plan.call (vs := [AG [(8, fun q => VU .u32 (m55 q))]]) rfl FRef02.call82 rfl (letheref02_bytesOf_ok  hr76 h74) ?_
  rintro _ w78 ⟨rfl, h78⟩
  refine ⟨_, rfl, .inr ⟨rfl, ?_⟩⟩
  refine Plan.storeA (f' := fun q => VU .u8 (x_77 q)) h78 1 rfl rfl rfl rfl (fun _ _ => rfl) FRef02.sz22 rfl fun w79 h79 => ?_
  simp only [zca, zna, zsz, zss] at h79
  refine Plan.nil (k75 _ _ ?_); clear k75
  refine W.ret (finR_ret ?_)
  have h80 := St.pickT (C := [_, _]) h79 [] (by decide)
  simp only [pick, zfc, zfn, zgz, zgs, zca, zna] at h80
  subst r
  refine RetOk.mk (.agg h79 rfl (.cons 1 rfl .nil) FRef02.agg22 .nil) ?_
  exact ⟨rfl, h80⟩
end Go.Proofs.YtjclppnbbpnfnaaDoor
