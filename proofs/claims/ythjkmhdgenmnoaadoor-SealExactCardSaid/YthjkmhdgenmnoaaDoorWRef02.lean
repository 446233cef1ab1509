/-
 WALKS of the package's functions, printed by this session's own program (auto.py).
-/
import Derived.Test.YthjkmhdgenmnoaaDoorProg
import Derived.Test.YthjkmhdgenmnoaaDoorEc
import Derived.Test.YthjkmhdgenmnoaaDoorRRef02
import Derived.Test.YthjkmhdgenmnoaaDoorEls
namespace Go.Proofs.YthjkmhdgenmnoaaDoor
set_option linter.unusedSimpArgs false
set_option linter.unusedVariables false
set_option linter.unusedSectionVars false
set_option maxRecDepth 8000
set_option maxHeartbeats 1000000
open Go Go.LW
theorem FRef02.mixed : Tryd.prog.follows .mixedOrders = true := by kernel_rfl
theorem FRef02.el24 : elD Tryd.prog 24 = some (1, 1, some (VU .u8 0#8)) := by kernel_rfl
theorem FRef02.sl24 : slB Tryd.prog 24 1 = true := by kernel_rfl
theorem FRef02.zv5 : (Tryd.prog.info? 5).bind (·.zero) = some (VU .u8 0#8) := by kernel_rfl
theorem FRef02.slu24 : Tryd.prog.underlying 24 = some (.slice 5) := by kernel_rfl
theorem FRef02.sz5 : szT Tryd.prog 5 1 = true := by kernel_rfl
theorem FRef02.isl24 : ∃ el, Tryd.prog.underlying 24 = some (.slice el) := ⟨5, by kernel_rfl⟩
theorem FRef02.u5 : Tryd.prog.underlying 5 = some (.int .u8) := by kernel_rfl
theorem FRef02.agg94 : aggT Tryd.prog 94 8 = true := by kernel_rfl
theorem FRef02.z95 : zeroIs Tryd.prog 95 [(64, fun _ => VU .u8 0#8)] := zeroIs_agg (by kernel_rfl)
theorem FRef02.arr95 : arrB Tryd.prog 95 64 1 = true := by kernel_rfl
theorem FRef02.agg95 : aggT Tryd.prog 95 64 = true := by kernel_rfl
theorem FRef02.z94 : zeroIs Tryd.prog 94 [(8, fun _ => VU .u32 0#32)] := zeroIs_agg (by kernel_rfl)
theorem FRef02.sc5 : scalarT Tryd.prog 5 = true := by kernel_rfl
theorem FRef02.u93 : Tryd.prog.underlying 93 = some (.int .u32) := by kernel_rfl
theorem FRef02.some5 : (Tryd.prog.underlying 5).isSome = true := by kernel_rfl
theorem FRef02.sz93 : szT Tryd.prog 93 1 = true := by kernel_rfl
theorem FRef02.sc93 : scalarT Tryd.prog 93 = true := by kernel_rfl
theorem FRef02.some3 : (Tryd.prog.underlying 3).isSome = true := by kernel_rfl
theorem FRef02.arr94 : arrB Tryd.prog 94 8 1 = true := by kernel_rfl
theorem FRef02.sz94 : szT Tryd.prog 94 8 = true := by kernel_rfl
theorem FRef02.u73 : Tryd.prog.underlying 73 = some (.int .u64) := by kernel_rfl
theorem FRef02.some73 : (Tryd.prog.underlying 73).isSome = true := by kernel_rfl
theorem FRef02.some93 : (Tryd.prog.underlying 93).isSome = true := by kernel_rfl
theorem FRef02.agg22 : aggT Tryd.prog 22 32 = true := by kernel_rfl
theorem FRef02.arr22 : arrB Tryd.prog 22 32 1 = true := by kernel_rfl
theorem FRef02.z22 : zeroIs Tryd.prog 22 [(32, fun _ => VU .u8 0#8)] := zeroIs_agg (by kernel_rfl)
theorem FRef02.z117 : zeroIs Tryd.prog 117 [(8, fun _ => VU .u8 0#8)] := zeroIs_agg (by kernel_rfl)
theorem FRef02.arr117 : arrB Tryd.prog 117 8 1 = true := by kernel_rfl
theorem FRef02.call72 : callB Tryd.prog 72 = true := by kernel_rfl
theorem FRef02.arr118 : arrB Tryd.prog 118 8 1 = true := by kernel_rfl
theorem FRef02.sc73 : scalarT Tryd.prog 73 = true := by kernel_rfl
theorem FRef02.call73 : callB Tryd.prog 73 = true := by kernel_rfl
theorem FRef02.sz95 : szT Tryd.prog 95 64 = true := by kernel_rfl
theorem FRef02.call75 : callB Tryd.prog 75 = true := by kernel_rfl
theorem FRef02.z119 : zeroIs Tryd.prog 119 [(64, fun _ => VU .u64 0#64)] := zeroIs_agg (by kernel_rfl)
theorem FRef02.arr119 : arrB Tryd.prog 119 64 1 = true := by kernel_rfl
theorem FRef02.sz73 : szT Tryd.prog 73 1 = true := by kernel_rfl
theorem FRef02.call78 : callB Tryd.prog 78 = true := by kernel_rfl
theorem FRef02.call79 : callB Tryd.prog 79 = true := by kernel_rfl
theorem FRef02.agg119 : aggT Tryd.prog 119 64 = true := by kernel_rfl
theorem FRef02.sz119 : szT Tryd.prog 119 64 = true := by kernel_rfl
theorem FRef02.call77 : callB Tryd.prog 77 = true := by kernel_rfl
theorem FRef02.z118 : zeroIs Tryd.prog 118 [(8, fun _ => VU .u64 0#64)] := zeroIs_agg (by kernel_rfl)
theorem FRef02.call74 : callB Tryd.prog 74 = true := by kernel_rfl
theorem FRef02.sz22 : szT Tryd.prog 22 32 = true := by kernel_rfl
theorem FRef02.call76 : callB Tryd.prog 76 = true := by kernel_rfl
theorem letheref02_padded_ok {B : Nat} {w0 w : World} {L : List Rg} {m1 : List Byte} {am1 : Option Addr} {nm1 cm1 im1 : Nat} (hm1 : Bx L im1 am1 nm1 cm1 m1) {r : (List Byte)} (hR : letheref02_padded m1 r) (HST : St B w0 (L) w) :
  Calls Tryd.prog 72 #[.slice am1 nm1 cm1] w fun e w' => ∃ ay0 : Option Addr, ∃ py0 : Option Nat, ∃ ny0 : Nat, ∃ cy0 : Nat, ∃ Fy0 : Nat → Byte, e = .returned (.slice ay0 ny0 cy0) ∧ St B w0 (⟨py0, 0, cy0, fun q => VU .u8 (Fy0 q), true⟩ :: L) w' ∧ Ow ay0 py0 ny0 cy0 Fy0 r := by
 refine W.enter 53 Tryd.func72 rfl rfl rfl ?_
 unfold letheref02_padded at hR
 have em1 := hm1.hl; subst em1
 refine W.seq_k fun _ k2 => W.regionT [(0, true)] (by kernel_rfl) ?_
 refine Plan.assign_slice rfl rfl <| Plan.nil (k2 _ _ ?_); clear k2
 refine W.seq_k fun _ k3 => W.regionT [(0, true), (1, false), (2, true)] (by kernel_rfl) ?_
 refine Plan.move_slice rfl rfl ?_
 have h4 := HST.nilR
 obtain ⟨hc6, hR⟩ := hR
 refine Plan.appendO (X := ([] : List Byte)) (Y := m1) h4 0 Ow.nil FRef02.el24 FRef02.sl24 rfl rfl rfl rfl (hm1.app [_]) hc6 (fun _ => EffO.keep PIn.nil) fun a5 pb5 cap5 F5 w5 ho5 h5 => ?_
 simp only [zca, zna, zsz, zss] at h5
 refine Plan.assign_slice rfl rfl <| Plan.nil (k3 _ _ ?_); clear k3
 refine W.seq_k fun _ k7 => W.regionT [(0, true), (1, false), (2, false), (3, true)] (by kernel_rfl) ?_
 refine Plan.move_slice rfl rfl ?_
 refine Plan.buildSlice h5 (ps := [(1, fun q => VU .u8 (lit ([128#8] : List Byte) q))]) FRef02.slu24 FRef02.sz5 FRef02.zv5 (by decide) (by decide) rfl rfl (by kernel_rfl) (EffO.keep PIn.nil) fun b8 w8 hb8 h8 => ?_
 simp only [rngs, List.cons_append, List.nil_append] at h8
 have ho8 : Ow (some ⟨b8, 0, none⟩) (some b8) ([128#8] : List Byte).length 1 (lit ([128#8] : List Byte)) ([128#8] : List Byte) := ⟨.inr ⟨b8, rfl, rfl⟩, Nat.le_refl _, rfl, fun q _ => rfl⟩
 obtain ⟨hc10, hR⟩ := hR
 refine Plan.appendO (X := (([] : List Byte) ++ m1)) (Y := ([128#8] : List Byte)) h8 1 ho5 FRef02.el24 FRef02.sl24 rfl rfl rfl rfl (ho8.bx 0 rfl) hc10 (fun _ => EffO.keep PIn.nil) fun a9 pb9 cap9 F9 w9 ho9 h9 => ?_
 simp only [zca, zna, zsz, zss] at h9
 refine Plan.assign_slice rfl rfl <| Plan.nil (k7 _ _ ?_); clear k7
 refine W.seq_k fun _ k11 => ?_
 obtain ⟨out27, hI28, hR028⟩ := hR
 refine W.cutN (fun e w => ∃ y_out27 : List Byte, out27 = y_out27 ∧ ∃ aout27 : Option Addr, ∃ pout27 : Option Nat, ∃ cout27 : Nat, ∃ Fout27 : Nat → Byte, EnvHas e [(0, .slice am1 m1.length cm1), (3, .slice aout27 y_out27.length cout27)] ∧ St B w0 (⟨pout27, 0, cout27, fun q => VU .u8 (Fout27 q), true⟩ :: L) w ∧ Ow aout27 pout27 y_out27.length cout27 Fout27 y_out27) ?_ ?_
 ·
  refine W.block ?_
  have h29 := St.pickT (C := [_, _]) h9 [1] (by decide)
  simp only [pick, zfc, zfn, zgz, zgs, zca, zna] at h29
  refine W.iter hI28 (fun (s28 : (List Byte)) e w => ∃ aout26 : Option Addr, ∃ pout26 : Option Nat, ∃ cout26 : Nat, ∃ Fout26 : Nat → Byte, EnvHas e [(0, .slice am1 m1.length cm1), (3, .slice aout26 s28.length cout26)] ∧ St B w0 (⟨pout26, 0, cout26, fun q => VU .u8 (Fout26 q), true⟩ :: L) w ∧ Ow aout26 pout26 s28.length cout26 Fout26 s28) ⟨a9, pb9, cap9, F9, (zer (zer zen)), h29, ho9⟩ ?_
  rintro out26 o28 hR hx28 ev30 wl30 ⟨aout26, pout26, cout26, Fout26, he30, h30, hout26⟩
  obtain ⟨ev30, rfl⟩ := he30.open
  unfold letheref02_padded_l0 at hR
  refine W.seq_k fun _ k31 => W.seq_k fun _ k32 => ?_
  refine W.regionT [(0, true), (1, true), (2, true), (3, true)] (by kernel_rfl) ?_
  refine Plan.move_slice rfl rfl <| Plan.len FRef02.isl24 rfl rfl <| Plan.remN (a := out26.length) (b := 64) rfl rfl rfl (by omega) <| Plan.cmpP (a := ((((out26.length % 64) : Nat) : Int) : Int)) (b := (56 : Int)) (p := (out26.length % 64) ≠ 56) rfl rfl rfl rfl icmp_neN <| Plan.nil (k32 _ _ ?_); clear k32
  by_cases hc33 : (out26.length % 64) ≠ 56
  ·
   replace hR := ifT hR hc33
   refine W.condT (congrArg Value.bool (decide_eq_true hc33)) ?_
   refine W.skip ?_
   refine k31 _ _ ?_; clear k31
   refine W.block ?_
   refine W.regionT [(0, true), (1, false), (2, false), (3, true)] (by kernel_rfl) ?_
   refine Plan.move_slice rfl rfl ?_
   refine Plan.buildSlice h30 (ps := [(1, fun q => VU .u8 (lit ([0#8] : List Byte) q))]) FRef02.slu24 FRef02.sz5 FRef02.zv5 (by decide) (by decide) rfl rfl (by kernel_rfl) (EffO.keep PIn.nil) fun b34 w34 hb34 h34 => ?_
   simp only [rngs, List.cons_append, List.nil_append] at h34
   have ho34 : Ow (some ⟨b34, 0, none⟩) (some b34) ([0#8] : List Byte).length 1 (lit ([0#8] : List Byte)) ([0#8] : List Byte) := ⟨.inr ⟨b34, rfl, rfl⟩, Nat.le_refl _, rfl, fun q _ => rfl⟩
   obtain ⟨hc36, hR⟩ := hR
   refine Plan.appendO (X := out26) (Y := ([0#8] : List Byte)) h34 1 hout26 FRef02.el24 FRef02.sl24 rfl rfl rfl rfl (ho34.bx 0 rfl) hc36 (fun _ => EffO.keep PIn.nil) fun a35 pb35 cap35 F35 w35 ho35 h35 => ?_
   simp only [zca, zna, zsz, zss] at h35
   refine Plan.assign_slice rfl rfl <| Plan.nil ?_
   refine blockR_norm ?_
   have h37 := St.pickT (C := [_, _]) h35 [1] (by decide)
   simp only [pick, zfc, zfn, zgz, zgs, zca, zna] at h37
   exact iterR_norm ⟨_, hR, a35, pb35, cap35, F35, (zer (zer zen)), h37, ho35⟩
  ·
   replace hR := ifF hR hc33
   refine W.condF (congrArg Value.bool (decide_eq_false hc33)) ?_
   refine W.exit (thenR_exit (iterR_exit (blockR_here ?_)))
   exact ⟨out26, (hx28 _ hR).symm, aout26, pout26, cout26, Fout26, (zer (zer zen)), h30, hout26⟩
 ·
  rintro ev38 wl38 ⟨y_out27, hy38, aout27, pout27, cout27, Fout27, he38, h38, hout27⟩
  obtain ⟨ev38, rfl⟩ := he38.open
  subst hy38
  replace hR := hR028
  refine k11 _ _ ?_; clear k11
  refine W.seq_k fun _ k39 => W.regionT [(0, true), (1, true), (2, true), (3, true), (4, true)] (by kernel_rfl) ?_
  refine Plan.move_slice rfl rfl <| Plan.len FRef02.isl24 rfl rfl <| Plan.convNU .u64 (a := m1.length) FRef02.u73 FRef02.some3 rfl rfl <| Plan.mulU .u64 (X := (BitVec.ofNat 64 m1.length)) (Y := 8#64) rfl rfl rfl <| Plan.assign_int rfl rfl <| Plan.nil (k39 _ _ ?_); clear k39
  refine W.seq_k fun _ k40 => W.regionT [(0, false)] (by kernel_rfl) ?_
  refine Plan.alloc h38 rfl FRef02.z117 PIn.nil fun b41 w41 hb41 h41 => ?_
  simp only [rngs, Nat.zero_add, Nat.reduceAdd, zca, zna] at h41
  refine Plan.nil (k40 _ _ ?_); clear k40
  refine W.seq_k fun _ k42 => W.seq_k fun _ k43 => ?_
  refine W.regionT [(0, true)] (by kernel_rfl) ?_
  refine Plan.assign_int rfl rfl <| Plan.nil (k43 _ _ ?_); clear k43
  obtain ⟨out78, m79, hI80, hR080⟩ := hR
  refine W.cutN (fun e w => ∃ y_out78 : List Byte, ∃ y_m79 : Nat → BitVec 8, (out78, m79) = (y_out78, y_m79) ∧ ∃ aout78 : Option Addr, ∃ pout78 : Option Nat, ∃ cout78 : Nat, ∃ Fout78 : Nat → Byte, EnvHas e [(3, .slice aout78 out27.length cout78), (5, .pointer (some ⟨b41, 0, none⟩))] ∧ St B w0 (⟨pout78, 0, cout78, fun q => VU .u8 (Fout78 q), true⟩ :: ⟨some b41, 0, 8, fun q => VU .u8 (y_m79 q), true⟩ :: L) w ∧ Ow aout78 pout78 out27.length cout78 Fout78 y_out78) ?_ ?_
  ·
   refine W.block ?_
   have h81 := St.pickT (C := [_, _]) h41 [1, 0] (by decide)
   simp only [pick, zfc, zfn, zgz, zgs, zca, zna] at h81
   refine W.iter hI80 (fun (s80 : ((List Byte) × (BitVec 64) × Int × (Nat → BitVec 8))) e w => ∃ aout74 : Option Addr, ∃ pout74 : Option Nat, ∃ cout74 : Nat, ∃ Fout74 : Nat → Byte, EnvHas e [(3, .slice aout74 out27.length cout74), (4, VU .u64 s80.2.1), (5, .pointer (some ⟨b41, 0, none⟩)), (6, .int .i64 s80.2.2.1)] ∧ St B w0 (⟨pout74, 0, cout74, fun q => VU .u8 (Fout74 q), true⟩ :: ⟨some b41, 0, 8, fun q => VU .u8 (s80.2.2.2 q), true⟩ :: L) w ∧ Ow aout74 pout74 out27.length cout74 Fout74 s80.1) ⟨aout27, pout27, cout27, Fout27, (zer (zer (zer (zer zen)))), h81, hout27⟩ ?_
   rintro ⟨out74, n_75, i_76, m77⟩ o80 hR hx80 ev82 wl82 ⟨aout74, pout74, cout74, Fout74, he82, h82, hout74⟩
   obtain ⟨ev82, rfl⟩ := he82.open
   unfold letheref02_padded_l1 at hR
   refine W.seq_k fun _ k83 => W.seq_k fun _ k84 => ?_
   refine W.regionT [(0, true), (1, true)] (by kernel_rfl) ?_
   refine Plan.move_int rfl rfl <| Plan.cmpP (a := (i_76 : Int)) (b := (0 : Int)) (p := 0 ≤ i_76) rfl rfl rfl rfl icmp_ge <| Plan.nil (k84 _ _ ?_); clear k84
   by_cases hc85 : 0 ≤ i_76
   ·
    replace hR := ifT hR hc85
    refine W.condT (congrArg Value.bool (decide_eq_true hc85)) ?_
    refine W.skip ?_
    refine k83 _ _ ?_; clear k83
    refine W.seq_k fun _ k86 => ?_
    refine W.block ?_
    refine W.seq_k fun _ k87 => W.regionT [(0, true), (1, true), (2, true), (3, true), (4, true), (5, false)] (by kernel_rfl) ?_
    refine Plan.move_int rfl rfl <| Plan.move_int rfl rfl <| Plan.remU .u64 (X := n_75) (Y := 256#64) rfl rfl rfl (by decide) <| Plan.convUU .u8 (X := (n_75 % (256#64))) FRef02.u5 FRef02.some73 rfl rfl ?_
    obtain ⟨hc88, hR⟩ := hR
    refine Plan.idxArr1 (j := i_76.toNat) FRef02.arr117 rfl rfl (congrArg (Value.int .i64) (Int.toNat_of_nonneg hc88.1).symm) (by omega) ?_
    refine Plan.storeU (j := i_76.toNat) (X := ((n_75 % (256#64)).setWidth 8)) h82 1 rfl rfl rfl rfl (by omega) FRef02.sz5 rfl fun w89 h89 => ?_
    simp only [zca, zna, zsz, zss] at h89
    refine Plan.nil (k87 _ _ ?_); clear k87
    refine W.regionT [(0, true), (1, true), (2, true)] (by kernel_rfl) ?_
    refine Plan.move_int rfl rfl <| Plan.quoU .u64 (X := n_75) (Y := 256#64) rfl rfl rfl (by decide) <| Plan.assign_int rfl rfl <| Plan.nil ?_
    refine blockR_norm ?_
    refine k86 _ _ ?_; clear k86
    refine W.regionT [(0, true), (1, true), (2, true)] (by kernel_rfl) ?_
    refine Plan.move_int rfl rfl ?_
    obtain ⟨hc90, hR⟩ := hR
    refine Plan.subI (a := i_76) (b := 1) rfl rfl rfl (by omega) <| Plan.assign_int rfl rfl <| Plan.nil ?_
    exact iterR_norm ⟨_, hR, aout74, pout74, cout74, Fout74, (zer (zer (zer (zer zen)))), h89, hout74⟩
   ·
    replace hR := ifF hR hc85
    refine W.condF (congrArg Value.bool (decide_eq_false hc85)) ?_
    refine W.exit (thenR_exit (iterR_exit (blockR_here ?_)))
    exact ⟨out74, m77, (hx80 _ hR).symm, aout74, pout74, cout74, Fout74, (zer (zer zen)), h82, hout74⟩
  ·
   rintro ev91 wl91 ⟨y_out78, y_m79, hy91, aout78, pout78, cout78, Fout78, he91, h91, hout78⟩
   obtain ⟨ev91, rfl⟩ := he91.open
   cases hy91
   replace hR := hR080
   refine k42 _ _ ?_; clear k42
   refine W.seq_k fun _ k92 => W.regionT [(0, true), (1, true), (2, true), (3, true), (4, true), (5, true), (6, true), (7, true), (8, true), (9, true), (10, true), (11, true), (12, true), (13, true), (14, true), (15, true), (16, true), (17, false), (18, false), (19, true)] (by kernel_rfl) ?_
   refine Plan.move_slice rfl rfl <| Plan.idxArr1 (j := 0) FRef02.arr117 rfl rfl rfl (by omega) <| Plan.load1 (j := 0) h91 1 rfl rfl rfl (by omega) FRef02.sc5 <| Plan.idxArr1 (j := 1) FRef02.arr117 rfl rfl rfl (by omega) <| Plan.load1 (j := 1) h91 1 rfl rfl rfl (by omega) FRef02.sc5 <| Plan.idxArr1 (j := 2) FRef02.arr117 rfl rfl rfl (by omega) <| Plan.load1 (j := 2) h91 1 rfl rfl rfl (by omega) FRef02.sc5 <| Plan.idxArr1 (j := 3) FRef02.arr117 rfl rfl rfl (by omega) ?_
   refine Plan.load1 (j := 3) h91 1 rfl rfl rfl (by omega) FRef02.sc5 <| Plan.idxArr1 (j := 4) FRef02.arr117 rfl rfl rfl (by omega) <| Plan.load1 (j := 4) h91 1 rfl rfl rfl (by omega) FRef02.sc5 <| Plan.idxArr1 (j := 5) FRef02.arr117 rfl rfl rfl (by omega) <| Plan.load1 (j := 5) h91 1 rfl rfl rfl (by omega) FRef02.sc5 <| Plan.idxArr1 (j := 6) FRef02.arr117 rfl rfl rfl (by omega) <| Plan.load1 (j := 6) h91 1 rfl rfl rfl (by omega) FRef02.sc5 <| Plan.idxArr1 (j := 7) FRef02.arr117 rfl rfl rfl (by omega) ?_
   refine Plan.load1 (j := 7) h91 1 rfl rfl rfl (by omega) FRef02.sc5 ?_
   refine Plan.buildSlice h91 (ps := [(8, fun q => VU .u8 (lit ([(m79 0), (m79 1), (m79 2), (m79 3), (m79 4), (m79 5), (m79 6), (m79 7)] : List Byte) q))]) FRef02.slu24 FRef02.sz5 FRef02.zv5 (by decide) (by decide) rfl rfl rfl (EffO.wait rfl) fun b93 w93 hb93 h93 => ?_
   simp only [rngs, List.cons_append, List.nil_append] at h93
   have ho93 : Ow (some ⟨b93, 0, none⟩) (some b93) ([(m79 0), (m79 1), (m79 2), (m79 3), (m79 4), (m79 5), (m79 6), (m79 7)] : List Byte).length 8 (lit ([(m79 0), (m79 1), (m79 2), (m79 3), (m79 4), (m79 5), (m79 6), (m79 7)] : List Byte)) ([(m79 0), (m79 1), (m79 2), (m79 3), (m79 4), (m79 5), (m79 6), (m79 7)] : List Byte) := ⟨.inr ⟨b93, rfl, rfl⟩, Nat.le_refl _, rfl, fun q _ => rfl⟩
   obtain ⟨hc95, hR⟩ := hR
   refine Plan.appendO (X := out78) (Y := ([(m79 0), (m79 1), (m79 2), (m79 3), (m79 4), (m79 5), (m79 6), (m79 7)] : List Byte)) h93 1 hout78 FRef02.el24 FRef02.sl24 rfl rfl rfl rfl (ho93.bx 0 rfl) hc95 (fun _ => EffO.keep PIn.nil) fun a94 pb94 cap94 F94 w94 ho94 h94 => ?_
   simp only [zca, zna, zsz, zss] at h94
   refine Plan.assign_slice rfl rfl <| Plan.nil (k92 _ _ ?_); clear k92
   refine W.ret (finR_ret ?_)
   have h96 := St.pickT (C := [_, _, _]) h94 [1] (by decide)
   simp only [pick, zfc, zfn, zgz, zgs, zca, zna] at h96
   subst r
   refine RetOk.mk (.tmp_slice rfl .nil) ?_
   exact ⟨a94, pb94, (out78 ++ ([(m79 0), (m79 1), (m79 2), (m79 3), (m79 4), (m79 5), (m79 6), (m79 7)] : List Byte)).length, cap94, F94, rfl, h96, ho94⟩
theorem letheref02_Begin_ok {B : Nat} {w0 w : World} {L : List Rg} {iG2 : Nat} (hG2 : L[iG2]? = some ⟨some 2, 0, 8, fun q => VU .u64 (H64 q), false⟩)  {r : (Nat → BitVec 32)} (hR : letheref02_Begin r) (HST : St B w0 (L) w) :
  Calls Tryd.prog 73 #[] w fun e w' => e = .returned (AG [(8, fun q => VU .u32 (r q))]) ∧ St B w0 (L) w' := by
 refine W.enter 14 Tryd.func73 rfl rfl rfl ?_
 unfold letheref02_Begin at hR
 refine W.seq_k fun _ k1 => W.regionT [(0, false)] (by kernel_rfl) ?_
 refine Plan.alloc HST rfl FRef02.z94 PIn.nil fun b2 w2 hb2 h2 => ?_
 simp only [rngs, Nat.zero_add, Nat.reduceAdd, zca, zna] at h2
 refine Plan.nil (k1 _ _ ?_); clear k1
 refine W.seq_k fun _ k3 => W.regionT [(0, false)] (by kernel_rfl) ?_
 refine Plan.alloc h2 rfl FRef02.z94 PIn.nil fun b4 w4 hb4 h4 => ?_
 simp only [rngs, Nat.zero_add, Nat.reduceAdd, zca, zna] at h4
 refine Plan.nil (k3 _ _ ?_); clear k3
 refine W.seq_k fun _ k5 => W.seq_k fun _ k6 => ?_
 refine W.regionT [(0, true)] (by kernel_rfl) ?_
 refine Plan.assign_int rfl rfl <| Plan.nil (k6 _ _ ?_); clear k6
 obtain ⟨m20, hI21, hR021⟩ := hR
 refine W.cutN (fun e w => ∃ y_m20 : Nat → BitVec 32, m20 = y_m20 ∧ EnvHas e [(0, .pointer (some ⟨b2, 0, none⟩)), (1, .pointer (some ⟨b4, 0, none⟩))] ∧ St B w0 (⟨some b4, 0, 8, fun q => VU .u32 (y_m20 q), true⟩ :: ⟨some b2, 0, 8, fun q => VU .u32 ((fun _ => 0#32) q), true⟩ :: L) w) ?_ ?_
 ·
  refine W.block ?_
  refine W.iter hI21 (fun (s21 : (Nat × (Nat → BitVec 32))) e w => EnvHas e [(0, .pointer (some ⟨b2, 0, none⟩)), (1, .pointer (some ⟨b4, 0, none⟩)), (2, VN s21.1)] ∧ St B w0 (⟨some b4, 0, 8, fun q => VU .u32 (s21.2 q), true⟩ :: ⟨some b2, 0, 8, fun q => VU .u32 ((fun _ => 0#32) q), true⟩ :: L) w) ⟨(zer (zer (zer zen))), h4⟩ ?_
  rintro ⟨i_18, m19⟩ o21 hR hx21 ev22 wl22 ⟨he22, h22⟩
  obtain ⟨ev22, rfl⟩ := he22.open
  unfold letheref02_Begin_l0 at hR
  refine W.seq_k fun _ k23 => W.seq_k fun _ k24 => ?_
  refine W.regionT [(0, true), (1, true)] (by kernel_rfl) ?_
  refine Plan.move_int rfl rfl <| Plan.cmpP (a := (((i_18 : Nat) : Int) : Int)) (b := (8 : Int)) (p := i_18 < 8) rfl rfl rfl rfl icmp_ltN <| Plan.nil (k24 _ _ ?_); clear k24
  by_cases hc25 : i_18 < 8
  ·
   replace hR := ifT hR hc25
   refine W.condT (congrArg Value.bool (decide_eq_true hc25)) ?_
   refine W.skip ?_
   refine k23 _ _ ?_; clear k23
   refine W.seq_k fun _ k26 => ?_
   refine W.block ?_
   refine W.regionT [(0, true), (1, true), (2, true), (3, true), (4, true), (5, true), (6, false)] (by kernel_rfl) ?_
   refine Plan.move_int rfl rfl <| Plan.move_int rfl rfl <| Plan.idxArr1 (j := i_18) FRef02.arr118 rfl rfl rfl (by omega) <| Plan.load1 (j := i_18) h22 (iG2 + 2) rfl rfl hG2 (by omega) FRef02.sc73 <| Plan.convUU .u32 (X := (H64 i_18)) FRef02.u93 FRef02.some73 rfl rfl <| Plan.idxArr1 (j := i_18) FRef02.arr94 rfl rfl rfl (by omega) ?_
   refine Plan.storeU (j := i_18) (X := ((H64 i_18).setWidth 32)) h22 0 rfl rfl rfl rfl (by omega) FRef02.sz93 rfl fun w27 h27 => ?_
   simp only [zca, zna, zsz, zss] at h27
   refine Plan.nil ?_
   refine blockR_norm ?_
   refine k26 _ _ ?_; clear k26
   refine W.regionT [(0, true), (1, true), (2, true)] (by kernel_rfl) ?_
   refine Plan.move_int rfl rfl <| Plan.addN (a := i_18) (b := 1) rfl rfl rfl (by omega) <| Plan.assign_int rfl rfl <| Plan.nil ?_
   exact iterR_norm ⟨_, hR, (zer (zer (zer zen))), h27⟩
  ·
   replace hR := ifF hR hc25
   refine W.condF (congrArg Value.bool (decide_eq_false hc25)) ?_
   refine W.exit (thenR_exit (iterR_exit (blockR_here ?_)))
   exact ⟨m19, (hx21 _ hR).symm, (zer (zer zen)), h22⟩
 ·
  rintro ev28 wl28 ⟨y_m20, hy28, he28, h28⟩
  obtain ⟨ev28, rfl⟩ := he28.open
  subst hy28
  replace hR := hR021
  refine k5 _ _ ?_; clear k5
  refine W.seq_k fun _ k29 => W.regionT [(0, true), (1, false)] (by kernel_rfl) ?_
  refine Plan.loadA1 h28 0 rfl rfl rfl FRef02.agg94 ?_
  refine Plan.storeA (f' := fun q => VU .u32 (m20 q)) h28 1 rfl rfl rfl rfl (fun _ _ => rfl) FRef02.sz94 rfl fun w30 h30 => ?_
  simp only [zca, zna, zsz, zss] at h30
  refine Plan.nil (k29 _ _ ?_); clear k29
  refine W.ret (finR_ret ?_)
  have h31 := St.pickT (C := [_, _]) h30 [] (by decide)
  simp only [pick, zfc, zfn, zgz, zgs, zca, zna] at h31
  subst r
  refine RetOk.mk (.agg h30 rfl (.cons 1 rfl .nil) FRef02.agg94 .nil) ?_
  exact ⟨rfl, h31⟩
theorem letheref02_At_ok {B : Nat} {w0 w : World} {L : List Rg} {b1 : List Byte} {ab1 : Option Addr} {nb1 cb1 ib1 : Nat} (hb1 : Bx L ib1 ab1 nb1 cb1 b1) {i_2 : Int} {r : (Nat → BitVec 8)} (hR : letheref02_At b1 i_2 r) (HST : St B w0 (L) w) :
  Calls Tryd.prog 75 #[.slice ab1 nb1 cb1, .int .i64 i_2] w fun e w' => e = .returned (AG [(64, fun q => VU .u8 (r q))]) ∧ St B w0 (L) w' := by
 refine W.enter 21 Tryd.func75 rfl rfl rfl ?_
 unfold letheref02_At at hR
 have eb1 := hb1.hl; subst eb1
 refine W.seq_k fun _ k3 => W.regionT [(0, false)] (by kernel_rfl) ?_
 refine Plan.alloc HST rfl FRef02.z95 PIn.nil fun b4 w4 hb4 h4 => ?_
 simp only [rngs, Nat.zero_add, Nat.reduceAdd, zca, zna] at h4
 refine Plan.nil (k3 _ _ ?_); clear k3
 refine W.seq_k fun _ k5 => W.regionT [(0, false)] (by kernel_rfl) ?_
 refine Plan.alloc h4 rfl FRef02.z95 PIn.nil fun b6 w6 hb6 h6 => ?_
 simp only [rngs, Nat.zero_add, Nat.reduceAdd, zca, zna] at h6
 refine Plan.nil (k5 _ _ ?_); clear k5
 refine W.seq_k fun _ k7 => W.seq_k fun _ k8 => ?_
 refine W.regionT [(0, true)] (by kernel_rfl) ?_
 refine Plan.assign_int rfl rfl <| Plan.nil (k8 _ _ ?_); clear k8
 obtain ⟨m30, hI31, hR031⟩ := hR
 refine W.cutN (fun e w => ∃ y_m30 : Nat → BitVec 8, m30 = y_m30 ∧ EnvHas e [(4, .pointer (some ⟨b4, 0, none⟩)), (5, .pointer (some ⟨b6, 0, none⟩))] ∧ St B w0 (⟨some b6, 0, 64, fun q => VU .u8 (y_m30 q), true⟩ :: ⟨some b4, 0, 64, fun q => VU .u8 ((fun _ => 0#8) q), true⟩ :: L) w) ?_ ?_
 ·
  refine W.block ?_
  refine W.iter hI31 (fun (s31 : (Nat × (Nat → BitVec 8))) e w => EnvHas e [(0, .slice ab1 b1.length cb1), (1, .int .i64 i_2), (4, .pointer (some ⟨b4, 0, none⟩)), (5, .pointer (some ⟨b6, 0, none⟩)), (6, VN s31.1)] ∧ St B w0 (⟨some b6, 0, 64, fun q => VU .u8 (s31.2 q), true⟩ :: ⟨some b4, 0, 64, fun q => VU .u8 ((fun _ => 0#8) q), true⟩ :: L) w) ⟨(zer (zer (zer (zer (zer zen))))), h6⟩ ?_
  rintro ⟨k28, m29⟩ o31 hR hx31 ev32 wl32 ⟨he32, h32⟩
  obtain ⟨ev32, rfl⟩ := he32.open
  unfold letheref02_At_l0 at hR
  refine W.seq_k fun _ k33 => W.seq_k fun _ k34 => ?_
  refine W.regionT [(0, true), (1, true)] (by kernel_rfl) ?_
  refine Plan.move_int rfl rfl <| Plan.cmpP (a := (((k28 : Nat) : Int) : Int)) (b := (64 : Int)) (p := k28 < 64) rfl rfl rfl rfl icmp_ltN <| Plan.nil (k34 _ _ ?_); clear k34
  by_cases hc35 : k28 < 64
  ·
   replace hR := ifT hR hc35
   refine W.condT (congrArg Value.bool (decide_eq_true hc35)) ?_
   refine W.skip ?_
   refine k33 _ _ ?_; clear k33
   refine W.seq_k fun _ k36 => ?_
   refine W.block ?_
   refine W.regionT [(0, true), (1, true), (2, true), (3, true), (4, true), (5, true), (6, true), (7, true), (8, true), (9, false)] (by kernel_rfl) ?_
   refine Plan.move_int rfl rfl <| Plan.move_slice rfl rfl <| Plan.move_int rfl rfl ?_
   obtain ⟨hc37, hR⟩ := hR
   refine Plan.mulI (a := 64) (b := i_2) rfl rfl rfl (by omega) <| Plan.move_int rfl rfl ?_
   obtain ⟨hc38, hR⟩ := hR
   refine Plan.addI (a := (64 * i_2)) (b := ((k28 : Nat) : Int)) rfl rfl rfl (by omega) ?_
   obtain ⟨hc39, hR⟩ := hR
   refine Plan.idxVS (j := ((64 * i_2) + ((k28 : Nat) : Int)).toNat) h32 (hb1.app [_, _]) FRef02.sl24 rfl rfl (congrArg (Value.int .i64) (Int.toNat_of_nonneg hc39.1).symm) (toNat_lt hc39.1 hc39.2) ?_
   refine Plan.loadV (j := ((64 * i_2) + ((k28 : Nat) : Int)).toNat) h32 (hb1.app [_, _]) rfl rfl (toNat_lt hc39.1 hc39.2) FRef02.sc5 fun r40 hr40 => ?_
   refine Plan.idxArr1 (j := k28) FRef02.arr95 rfl rfl rfl (by omega) ?_
   refine Plan.storeU (j := k28) (X := (lit b1 (((64 * i_2) + ((k28 : Nat) : Int)).toNat))) h32 0 rfl rfl rfl rfl (by omega) FRef02.sz5 rfl fun w41 h41 => ?_
   simp only [zca, zna, zsz, zss] at h41
   refine Plan.nil ?_
   refine blockR_norm ?_
   refine k36 _ _ ?_; clear k36
   refine W.regionT [(0, true), (1, true), (2, true)] (by kernel_rfl) ?_
   refine Plan.move_int rfl rfl <| Plan.addN (a := k28) (b := 1) rfl rfl rfl (by omega) <| Plan.assign_int rfl rfl <| Plan.nil ?_
   exact iterR_norm ⟨_, hR, (zer (zer (zer (zer (zer zen))))), h41⟩
  ·
   replace hR := ifF hR hc35
   refine W.condF (congrArg Value.bool (decide_eq_false hc35)) ?_
   refine W.exit (thenR_exit (iterR_exit (blockR_here ?_)))
   exact ⟨m29, (hx31 _ hR).symm, (zer (zer zen)), h32⟩
 ·
  rintro ev42 wl42 ⟨y_m30, hy42, he42, h42⟩
  obtain ⟨ev42, rfl⟩ := he42.open
  subst hy42
  replace hR := hR031
  refine k7 _ _ ?_; clear k7
  refine W.seq_k fun _ k43 => W.regionT [(0, true), (1, false)] (by kernel_rfl) ?_
  refine Plan.loadA1 h42 0 rfl rfl rfl FRef02.agg95 ?_
  refine Plan.storeA (f' := fun q => VU .u8 (m30 q)) h42 1 rfl rfl rfl rfl (fun _ _ => rfl) FRef02.sz95 rfl fun w44 h44 => ?_
  simp only [zca, zna, zsz, zss] at h44
  refine Plan.nil (k43 _ _ ?_); clear k43
  refine W.ret (finR_ret ?_)
  have h45 := St.pickT (C := [_, _]) h44 [] (by decide)
  simp only [pick, zfc, zfn, zgz, zgs, zca, zna] at h45
  subst r
  refine RetOk.mk (.agg h44 rfl (.cons 1 rfl .nil) FRef02.agg95 .nil) ?_
  exact ⟨rfl, h45⟩
theorem letheref02_turn_ok {B : Nat} {w0 w : World} {L : List Rg} {n_1 : Int} {x_2 : BitVec 64} {r : (BitVec 64)} (hR : letheref02_turn n_1 x_2 r) (HST : St B w0 (L) w) :
  Calls Tryd.prog 78 #[.int .i64 n_1, VU .u64 x_2] w fun e w' => e = .returned (VU .u64 r) ∧ St B w0 (L) w' := by
 refine W.enter 18 Tryd.func78 rfl rfl rfl ?_
 unfold letheref02_turn at hR
 refine W.seq_k fun _ k3 => W.regionT [(0, true)] (by kernel_rfl) ?_
 refine Plan.assign_int rfl rfl <| Plan.nil (k3 _ _ ?_); clear k3
 refine W.seq_k fun _ k4 => W.seq_k fun _ k5 => ?_
 refine W.regionT [(0, true)] (by kernel_rfl) ?_
 refine Plan.assign_int rfl rfl <| Plan.nil (k5 _ _ ?_); clear k5
 obtain ⟨x_19, hI20, hR020⟩ := hR
 refine W.cutN (fun e w => ∃ y_x_19 : BitVec 64, x_19 = y_x_19 ∧ EnvHas e [(1, VU .u64 y_x_19)] ∧ St B w0 (L) w) ?_ ?_
 ·
  refine W.block ?_
  refine W.iter hI20 (fun (s20 : ((BitVec 64) × Nat)) e w => EnvHas e [(0, .int .i64 n_1), (1, VU .u64 s20.1), (5, VN s20.2)] ∧ St B w0 (L) w) ⟨(zer (zer (zer zen))), HST⟩ ?_
  rintro ⟨x_17, i_18⟩ o20 hR hx20 ev21 wl21 ⟨he21, h21⟩
  obtain ⟨ev21, rfl⟩ := he21.open
  unfold letheref02_turn_l0 at hR
  refine W.seq_k fun _ k22 => W.seq_k fun _ k23 => ?_
  refine W.regionT [(0, true), (1, true), (2, true)] (by kernel_rfl) ?_
  refine Plan.move_int rfl rfl <| Plan.move_int rfl rfl <| Plan.cmpP (a := (((i_18 : Nat) : Int) : Int)) (b := (n_1 : Int)) (p := ((i_18 : Nat) : Int) < n_1) rfl rfl rfl rfl icmp_lt <| Plan.nil (k23 _ _ ?_); clear k23
  by_cases hc24 : ((i_18 : Nat) : Int) < n_1
  ·
   replace hR := ifT hR hc24
   refine W.condT (congrArg Value.bool (decide_eq_true hc24)) ?_
   refine W.skip ?_
   refine k22 _ _ ?_; clear k22
   refine W.seq_k fun _ k25 => ?_
   refine W.block ?_
   refine W.regionT [(0, true), (1, true), (2, true), (3, true), (4, true), (5, true), (6, true)] (by kernel_rfl) ?_
   refine Plan.move_int rfl rfl <| Plan.quoU .u64 (X := x_17) (Y := 2#64) rfl rfl rfl (by decide) <| Plan.move_int rfl rfl <| Plan.remU .u64 (X := x_17) (Y := 2#64) rfl rfl rfl (by decide) <| Plan.mulU .u64 (X := (x_17 % (2#64))) (Y := 2147483648#64) rfl rfl rfl <| Plan.addU .u64 (X := (x_17 / (2#64))) (Y := ((x_17 % (2#64)) * (2147483648#64))) rfl rfl rfl <| Plan.assign_int rfl rfl <| Plan.nil ?_
   refine blockR_norm ?_
   refine k25 _ _ ?_; clear k25
   refine W.regionT [(0, true), (1, true), (2, true)] (by kernel_rfl) ?_
   refine Plan.move_int rfl rfl ?_
   obtain ⟨hc26, hR⟩ := hR
   refine Plan.addN (a := i_18) (b := 1) rfl rfl rfl (by omega) <| Plan.assign_int rfl rfl <| Plan.nil ?_
   exact iterR_norm ⟨_, hR, (zer (zer (zer zen))), h21⟩
  ·
   replace hR := ifF hR hc24
   refine W.condF (congrArg Value.bool (decide_eq_false hc24)) ?_
   refine W.exit (thenR_exit (iterR_exit (blockR_here ?_)))
   exact ⟨x_17, (hx20 _ hR).symm, (zer zen), h21⟩
 ·
  rintro ev27 wl27 ⟨y_x_19, hy27, he27, h27⟩
  obtain ⟨ev27, rfl⟩ := he27.open
  subst hy27
  replace hR := hR020
  refine k4 _ _ ?_; clear k4
  refine W.seq_k fun _ k28 => W.regionT [(0, true), (1, true)] (by kernel_rfl) ?_
  refine Plan.move_int rfl rfl <| Plan.assign_int rfl rfl <| Plan.nil (k28 _ _ ?_); clear k28
  refine W.ret (finR_ret ?_)
  subst r
  refine RetOk.mk (.tmp_int rfl .nil) ?_
  exact ⟨rfl, h27⟩
theorem letheref02_move_ok {B : Nat} {w0 w : World} {L : List Rg} {n_1 : Int} {x_2 : BitVec 64} {r : (BitVec 64)} (hR : letheref02_move n_1 x_2 r) (HST : St B w0 (L) w) :
  Calls Tryd.prog 79 #[.int .i64 n_1, VU .u64 x_2] w fun e w' => e = .returned (VU .u64 r) ∧ St B w0 (L) w' := by
 refine W.enter 14 Tryd.func79 rfl rfl rfl ?_
 unfold letheref02_move at hR
 refine W.seq_k fun _ k3 => W.regionT [(0, true)] (by kernel_rfl) ?_
 refine Plan.assign_int rfl rfl <| Plan.nil (k3 _ _ ?_); clear k3
 refine W.seq_k fun _ k4 => W.seq_k fun _ k5 => ?_
 refine W.regionT [(0, true)] (by kernel_rfl) ?_
 refine Plan.assign_int rfl rfl <| Plan.nil (k5 _ _ ?_); clear k5
 obtain ⟨x_19, hI20, hR020⟩ := hR
 refine W.cutN (fun e w => ∃ y_x_19 : BitVec 64, x_19 = y_x_19 ∧ EnvHas e [(1, VU .u64 y_x_19)] ∧ St B w0 (L) w) ?_ ?_
 ·
  refine W.block ?_
  refine W.iter hI20 (fun (s20 : ((BitVec 64) × Nat)) e w => EnvHas e [(0, .int .i64 n_1), (1, VU .u64 s20.1), (5, VN s20.2)] ∧ St B w0 (L) w) ⟨(zer (zer (zer zen))), HST⟩ ?_
  rintro ⟨x_17, i_18⟩ o20 hR hx20 ev21 wl21 ⟨he21, h21⟩
  obtain ⟨ev21, rfl⟩ := he21.open
  unfold letheref02_move_l0 at hR
  refine W.seq_k fun _ k22 => W.seq_k fun _ k23 => ?_
  refine W.regionT [(0, true), (1, true), (2, true)] (by kernel_rfl) ?_
  refine Plan.move_int rfl rfl <| Plan.move_int rfl rfl <| Plan.cmpP (a := (((i_18 : Nat) : Int) : Int)) (b := (n_1 : Int)) (p := ((i_18 : Nat) : Int) < n_1) rfl rfl rfl rfl icmp_lt <| Plan.nil (k23 _ _ ?_); clear k23
  by_cases hc24 : ((i_18 : Nat) : Int) < n_1
  ·
   replace hR := ifT hR hc24
   refine W.condT (congrArg Value.bool (decide_eq_true hc24)) ?_
   refine W.skip ?_
   refine k22 _ _ ?_; clear k22
   refine W.seq_k fun _ k25 => ?_
   refine W.block ?_
   refine W.regionT [(0, true), (1, true), (2, true)] (by kernel_rfl) ?_
   refine Plan.move_int rfl rfl <| Plan.quoU .u64 (X := x_17) (Y := 2#64) rfl rfl rfl (by decide) <| Plan.assign_int rfl rfl <| Plan.nil ?_
   refine blockR_norm ?_
   refine k25 _ _ ?_; clear k25
   refine W.regionT [(0, true), (1, true), (2, true)] (by kernel_rfl) ?_
   refine Plan.move_int rfl rfl ?_
   obtain ⟨hc26, hR⟩ := hR
   refine Plan.addN (a := i_18) (b := 1) rfl rfl rfl (by omega) <| Plan.assign_int rfl rfl <| Plan.nil ?_
   exact iterR_norm ⟨_, hR, (zer (zer (zer zen))), h21⟩
  ·
   replace hR := ifF hR hc24
   refine W.condF (congrArg Value.bool (decide_eq_false hc24)) ?_
   refine W.exit (thenR_exit (iterR_exit (blockR_here ?_)))
   exact ⟨x_17, (hx20 _ hR).symm, (zer zen), h21⟩
 ·
  rintro ev27 wl27 ⟨y_x_19, hy27, he27, h27⟩
  obtain ⟨ev27, rfl⟩ := he27.open
  subst hy27
  replace hR := hR020
  refine k4 _ _ ?_; clear k4
  refine W.seq_k fun _ k28 => W.regionT [(0, true), (1, true)] (by kernel_rfl) ?_
  refine Plan.move_int rfl rfl <| Plan.assign_int rfl rfl <| Plan.nil (k28 _ _ ?_); clear k28
  refine W.ret (finR_ret ?_)
  subst r
  refine RetOk.mk (.tmp_int rfl .nil) ?_
  exact ⟨rfl, h27⟩
theorem letheref02_schedule_ok {B : Nat} {w0 w : World} {L : List Rg} {block1 : Nat → BitVec 8} {r : (Nat → BitVec 64)} (hR : letheref02_schedule block1 r) (HST : St B w0 (L) w) :
  Calls Tryd.prog 77 #[AG [(64, fun q => VU .u8 (block1 q))]] w fun e w' => e = .returned (AG [(64, fun q => VU .u64 (r q))]) ∧ St B w0 (L) w' := by
 refine W.enter 86 Tryd.func77 rfl rfl rfl ?_
 unfold letheref02_schedule at hR
 refine W.seq_k fun _ k2 => W.regionT [(0, false), (1, false)] (by kernel_rfl) ?_
 refine Plan.boxA HST rfl rfl PIn.nil fun b3 w3 hb3 h3 => ?_
 simp only [rngs, Nat.zero_add, Nat.reduceAdd, zca, zna] at h3
 refine Plan.alloc h3 rfl FRef02.z119 PIn.nil fun b4 w4 hb4 h4 => ?_
 simp only [rngs, Nat.zero_add, Nat.reduceAdd, zca, zna] at h4
 refine Plan.nil (k2 _ _ ?_); clear k2
 refine W.seq_k fun _ k5 => W.regionT [(0, false)] (by kernel_rfl) ?_
 refine Plan.alloc h4 rfl FRef02.z119 PIn.nil fun b6 w6 hb6 h6 => ?_
 simp only [rngs, Nat.zero_add, Nat.reduceAdd, zca, zna] at h6
 refine Plan.nil (k5 _ _ ?_); clear k5
 refine W.seq_k fun _ k7 => W.seq_k fun _ k8 => ?_
 refine W.regionT [(0, true)] (by kernel_rfl) ?_
 refine Plan.assign_int rfl rfl <| Plan.nil (k8 _ _ ?_); clear k8
 obtain ⟨m72, hI73, hR073⟩ := hR
 refine W.cutN (fun e w => ∃ y_m72 : Nat → BitVec 64, m72 = y_m72 ∧ EnvHas e [(2, .pointer (some ⟨b4, 0, none⟩)), (3, .pointer (some ⟨b6, 0, none⟩))] ∧ St B w0 (⟨some b6, 0, 64, fun q => VU .u64 (y_m72 q), true⟩ :: ⟨some b4, 0, 64, fun q => VU .u64 ((fun _ => 0#64) q), true⟩ :: L) w) ?_ ?_
 ·
  refine W.block ?_
  refine W.iter hI73 (fun (s73 : (Nat × (Nat → BitVec 64))) e w => EnvHas e [(1, .pointer (some ⟨b3, 0, none⟩)), (2, .pointer (some ⟨b4, 0, none⟩)), (3, .pointer (some ⟨b6, 0, none⟩)), (4, VN s73.1)] ∧ St B w0 (⟨some b6, 0, 64, fun q => VU .u64 (s73.2 q), true⟩ :: ⟨some b4, 0, 64, fun q => VU .u64 ((fun _ => 0#64) q), true⟩ :: ⟨some b3, 0, 64, fun q => VU .u8 (block1 q), true⟩ :: L) w) ⟨(zer (zer (zer (zer zen)))), h6⟩ ?_
  rintro ⟨t70, m71⟩ o73 hR hx73 ev74 wl74 ⟨he74, h74⟩
  obtain ⟨ev74, rfl⟩ := he74.open
  unfold letheref02_schedule_l0 at hR
  refine W.seq_k fun _ k75 => W.seq_k fun _ k76 => ?_
  refine W.regionT [(0, true), (1, true)] (by kernel_rfl) ?_
  refine Plan.move_int rfl rfl <| Plan.cmpP (a := (((t70 : Nat) : Int) : Int)) (b := (16 : Int)) (p := t70 < 16) rfl rfl rfl rfl icmp_ltN <| Plan.nil (k76 _ _ ?_); clear k76
  by_cases hc77 : t70 < 16
  ·
   replace hR := ifT hR hc77
   refine W.condT (congrArg Value.bool (decide_eq_true hc77)) ?_
   refine W.skip ?_
   refine k75 _ _ ?_; clear k75
   refine W.seq_k fun _ k78 => ?_
   refine W.block ?_
   refine W.seq_k fun _ k79 => W.regionT [(0, true)] (by kernel_rfl) ?_
   refine Plan.assign_int rfl rfl <| Plan.nil (k79 _ _ ?_); clear k79
   obtain ⟨m95, hI96, hR096⟩ := hR
   refine W.cutN (fun e w => ∃ y_m95 : Nat → BitVec 64, m95 = y_m95 ∧ EnvHas e [(1, .pointer (some ⟨b3, 0, none⟩)), (2, .pointer (some ⟨b4, 0, none⟩)), (3, .pointer (some ⟨b6, 0, none⟩)), (4, VN t70)] ∧ St B w0 (⟨some b6, 0, 64, fun q => VU .u64 (y_m95 q), true⟩ :: ⟨some b4, 0, 64, fun q => VU .u64 ((fun _ => 0#64) q), true⟩ :: ⟨some b3, 0, 64, fun q => VU .u8 (block1 q), true⟩ :: L) w) ?_ ?_
   ·
    refine W.block ?_
    refine W.iter hI96 (fun (s96 : (Nat × (Nat → BitVec 64))) e w => EnvHas e [(1, .pointer (some ⟨b3, 0, none⟩)), (2, .pointer (some ⟨b4, 0, none⟩)), (3, .pointer (some ⟨b6, 0, none⟩)), (4, VN t70), (5, VN s96.1)] ∧ St B w0 (⟨some b6, 0, 64, fun q => VU .u64 (s96.2 q), true⟩ :: ⟨some b4, 0, 64, fun q => VU .u64 ((fun _ => 0#64) q), true⟩ :: ⟨some b3, 0, 64, fun q => VU .u8 (block1 q), true⟩ :: L) w) ⟨(zer (zer (zer (zer (zer zen))))), h74⟩ ?_
    rintro ⟨k93, m94⟩ o96 hR hx96 ev97 wl97 ⟨he97, h97⟩
    obtain ⟨ev97, rfl⟩ := he97.open
    unfold letheref02_schedule_l1 at hR
    refine W.seq_k fun _ k98 => W.seq_k fun _ k99 => ?_
    refine W.regionT [(0, true), (1, true)] (by kernel_rfl) ?_
    refine Plan.move_int rfl rfl <| Plan.cmpP (a := (((k93 : Nat) : Int) : Int)) (b := (4 : Int)) (p := k93 < 4) rfl rfl rfl rfl icmp_ltN <| Plan.nil (k99 _ _ ?_); clear k99
    by_cases hc100 : k93 < 4
    ·
     replace hR := ifT hR hc100
     refine W.condT (congrArg Value.bool (decide_eq_true hc100)) ?_
     refine W.skip ?_
     refine k98 _ _ ?_; clear k98
     refine W.seq_k fun _ k101 => ?_
     refine W.block ?_
     refine W.regionD FRef02.mixed [(0, true), (1, true), (2, true), (3, true), (4, true), (5, true), (6, true), (7, true), (8, true), (9, true), (10, true), (11, true), (12, true), (13, true), (14, false)] (by kernel_rfl) ?_
     have h102 := h97.drew
     refine Plan.move_int rfl rfl <| Plan.move_int rfl rfl <| Plan.idxArr1 (j := t70) FRef02.arr119 rfl rfl rfl (by omega) <| Plan.load1 (j := t70) h102 0 rfl rfl rfl (by omega) FRef02.sc73 <| Plan.mulU .u64 (X := (m94 t70)) (Y := 256#64) rfl rfl rfl <| Plan.move_int rfl rfl <| Plan.mulN (a := 4) (b := t70) rfl rfl rfl (by omega) <| Plan.move_int rfl rfl ?_
     refine Plan.addN (a := (4 * t70)) (b := k93) rfl rfl rfl (by omega) <| Plan.idxArr1 (j := ((4 * t70) + k93)) FRef02.arr95 rfl rfl rfl (by omega) <| Plan.load1 (j := ((4 * t70) + k93)) h102 2 rfl rfl rfl (by omega) FRef02.sc5 <| Plan.convUU .u64 (X := (block1 ((4 * t70) + k93))) FRef02.u73 FRef02.some5 rfl rfl <| Plan.addU .u64 (X := ((m94 t70) * (256#64))) (Y := ((block1 ((4 * t70) + k93)).setWidth 64)) rfl rfl rfl <| Plan.idxArr1 (j := t70) FRef02.arr119 rfl rfl rfl (by omega) ?_
     refine Plan.storeU (j := t70) (X := (((m94 t70) * (256#64)) + ((block1 ((4 * t70) + k93)).setWidth 64))) h102 0 rfl rfl rfl rfl (by omega) FRef02.sz73 rfl fun w103 h103 => ?_
     simp only [zca, zna, zsz, zss] at h103
     refine Plan.nil ?_
     refine blockR_norm ?_
     refine k101 _ _ ?_; clear k101
     refine W.regionT [(0, true), (1, true), (2, true)] (by kernel_rfl) ?_
     refine Plan.move_int rfl rfl <| Plan.addN (a := k93) (b := 1) rfl rfl rfl (by omega) <| Plan.assign_int rfl rfl <| Plan.nil ?_
     exact iterR_norm ⟨_, hR, (zer (zer (zer (zer (zer zen))))), h103⟩
    ·
     replace hR := ifF hR hc100
     refine W.condF (congrArg Value.bool (decide_eq_false hc100)) ?_
     refine W.exit (thenR_exit (iterR_exit (blockR_here ?_)))
     exact ⟨m94, (hx96 _ hR).symm, (zer (zer (zer (zer zen)))), h97⟩
   ·
    rintro ev104 wl104 ⟨y_m95, hy104, he104, h104⟩
    obtain ⟨ev104, rfl⟩ := he104.open
    subst hy104
    replace hR := hR096
    refine blockR_norm ?_
    refine k78 _ _ ?_; clear k78
    refine W.regionT [(0, true), (1, true), (2, true)] (by kernel_rfl) ?_
    refine Plan.move_int rfl rfl <| Plan.addN (a := t70) (b := 1) rfl rfl rfl (by omega) <| Plan.assign_int rfl rfl <| Plan.nil ?_
    exact iterR_norm ⟨_, hR, (zer (zer (zer (zer zen)))), h104⟩
  ·
   replace hR := ifF hR hc77
   refine W.condF (congrArg Value.bool (decide_eq_false hc77)) ?_
   refine W.exit (thenR_exit (iterR_exit (blockR_here ?_)))
   have h105 := St.pickT (C := [_, _, _]) h74 [0, 1] (by decide)
   simp only [pick, zfc, zfn, zgz, zgs, zca, zna] at h105
   exact ⟨m71, (hx73 _ hR).symm, (zer (zer zen)), h105⟩
 ·
  rintro ev106 wl106 ⟨y_m72, hy106, he106, h106⟩
  obtain ⟨ev106, rfl⟩ := he106.open
  subst hy106
  replace hR := hR073
  refine k7 _ _ ?_; clear k7
  refine W.seq_k fun _ k107 => W.seq_k fun _ k108 => ?_
  refine W.regionT [(0, true)] (by kernel_rfl) ?_
  refine Plan.assign_int rfl rfl <| Plan.nil (k108 _ _ ?_); clear k108
  obtain ⟨m176, hI177, hR0177⟩ := hR
  refine W.cutN (fun e w => ∃ y_m176 : Nat → BitVec 64, m176 = y_m176 ∧ EnvHas e [(2, .pointer (some ⟨b4, 0, none⟩)), (3, .pointer (some ⟨b6, 0, none⟩))] ∧ St B w0 (⟨some b6, 0, 64, fun q => VU .u64 (y_m176 q), true⟩ :: ⟨some b4, 0, 64, fun q => VU .u64 ((fun _ => 0#64) q), true⟩ :: L) w) ?_ ?_
  ·
   refine W.block ?_
   refine W.iter hI177 (fun (s177 : (Nat × (Nat → BitVec 64))) e w => EnvHas e [(2, .pointer (some ⟨b4, 0, none⟩)), (3, .pointer (some ⟨b6, 0, none⟩)), (6, VN s177.1)] ∧ St B w0 (⟨some b6, 0, 64, fun q => VU .u64 (s177.2 q), true⟩ :: ⟨some b4, 0, 64, fun q => VU .u64 ((fun _ => 0#64) q), true⟩ :: L) w) ⟨(zer (zer (zer zen))), h106⟩ ?_
   rintro ⟨t174, m175⟩ o177 hR hx177 ev178 wl178 ⟨he178, h178⟩
   obtain ⟨ev178, rfl⟩ := he178.open
   unfold letheref02_schedule_l2 at hR
   refine W.seq_k fun _ k179 => W.seq_k fun _ k180 => ?_
   refine W.regionT [(0, true), (1, true)] (by kernel_rfl) ?_
   refine Plan.move_int rfl rfl <| Plan.cmpP (a := (((t174 : Nat) : Int) : Int)) (b := (64 : Int)) (p := t174 < 64) rfl rfl rfl rfl icmp_ltN <| Plan.nil (k180 _ _ ?_); clear k180
   by_cases hc181 : t174 < 64
   ·
    replace hR := ifT hR hc181
    refine W.condT (congrArg Value.bool (decide_eq_true hc181)) ?_
    refine W.skip ?_
    refine k179 _ _ ?_; clear k179
    refine W.seq_k fun _ k182 => ?_
    refine W.block ?_
    refine W.seq_k fun _ k183 => ?_
    refine W.regionD FRef02.mixed [(0, true), (1, true), (2, true), (3, true), (5, true), (6, true), (7, true), (8, true), (11, true), (12, true), (13, true), (14, true), (4, false), (9, false), (10, true), (15, false), (16, true), (17, true)] (by kernel_rfl) ?_
    have h184 := h178.drew
    refine Plan.move_int rfl rfl <| Plan.subI (a := ((t174 : Nat) : Int)) (b := 15) rfl rfl rfl (by omega) ?_
    obtain ⟨hc185, hR⟩ := hR
    refine Plan.idxArr1 (j := (((t174 : Nat) : Int) - 15).toNat) FRef02.arr119 rfl rfl (congrArg (Value.int .i64) (Int.toNat_of_nonneg hc185.1).symm) (by omega) <| Plan.load1 (j := (((t174 : Nat) : Int) - 15).toNat) h184 0 rfl rfl rfl (by omega) FRef02.sc73 <| Plan.move_int rfl rfl <| Plan.subI (a := ((t174 : Nat) : Int)) (b := 15) rfl rfl rfl (by omega) ?_
    obtain ⟨hc186, hR⟩ := hR
    refine Plan.idxArr1 (j := (((t174 : Nat) : Int) - 15).toNat) FRef02.arr119 rfl rfl (congrArg (Value.int .i64) (Int.toNat_of_nonneg hc186.1).symm) (by omega) <| Plan.load1 (j := (((t174 : Nat) : Int) - 15).toNat) h184 0 rfl rfl rfl (by omega) FRef02.sc73 <| Plan.move_int rfl rfl <| Plan.subI (a := ((t174 : Nat) : Int)) (b := 15) rfl rfl rfl (by omega) ?_
    obtain ⟨hc187, hR⟩ := hR
    refine Plan.idxArr1 (j := (((t174 : Nat) : Int) - 15).toNat) FRef02.arr119 rfl rfl (congrArg (Value.int .i64) (Int.toNat_of_nonneg hc187.1).symm) (by omega) <| Plan.load1 (j := (((t174 : Nat) : Int) - 15).toNat) h184 0 rfl rfl rfl (by omega) FRef02.sc73 ?_
    obtain ⟨x_189, hr188, hR⟩ := hR
    refine Plan.call (vs := [VN 7, VU .u64 (m175 ((((t174 : Nat) : Int) - 15).toNat))]) rfl FRef02.call78 rfl (letheref02_turn_ok  hr188 h184) ?_
    rintro _ w190 ⟨rfl, h190⟩
    refine ⟨_, rfl, .inl ⟨PIn.keep (PIn.cons 0 rfl (PIn.cons 0 rfl (PIn.cons 0 rfl PIn.nil))) h190, ?_⟩⟩
    obtain ⟨x_192, hr191, hR⟩ := hR
    refine Plan.call (vs := [VN 18, VU .u64 (m175 ((((t174 : Nat) : Int) - 15).toNat))]) rfl FRef02.call78 rfl (letheref02_turn_ok  hr191 h190) ?_
    rintro _ w193 ⟨rfl, h193⟩
    refine ⟨_, rfl, .inl ⟨PIn.keep (PIn.cons 0 rfl (PIn.cons 0 rfl (PIn.cons 0 rfl PIn.nil))) h193, ?_⟩⟩
    refine Plan.xorU .u64 (X := x_189) (Y := x_192) rfl rfl rfl ?_
    obtain ⟨x_195, hr194, hR⟩ := hR
    refine Plan.call (vs := [VN 3, VU .u64 (m175 ((((t174 : Nat) : Int) - 15).toNat))]) rfl FRef02.call79 rfl (letheref02_move_ok  hr194 h193) ?_
    rintro _ w196 ⟨rfl, h196⟩
    refine ⟨_, rfl, .inl ⟨PIn.keep (PIn.cons 0 rfl (PIn.cons 0 rfl (PIn.cons 0 rfl PIn.nil))) h196, ?_⟩⟩
    refine Plan.xorU .u64 (X := (x_189 ^^^ x_192)) (Y := x_195) rfl rfl rfl <| Plan.assign_int rfl rfl <| Plan.nil (k183 _ _ ?_); clear k183
    refine W.seq_k fun _ k197 => ?_
    refine W.regionD FRef02.mixed [(0, true), (1, true), (2, true), (3, true), (5, true), (6, true), (7, true), (8, true), (11, true), (12, true), (13, true), (14, true), (4, false), (9, false), (10, true), (15, false), (16, true), (17, true)] (by kernel_rfl) ?_
    have h198 := h196.drew
    refine Plan.move_int rfl rfl <| Plan.subI (a := ((t174 : Nat) : Int)) (b := 2) rfl rfl rfl (by omega) ?_
    obtain ⟨hc199, hR⟩ := hR
    refine Plan.idxArr1 (j := (((t174 : Nat) : Int) - 2).toNat) FRef02.arr119 rfl rfl (congrArg (Value.int .i64) (Int.toNat_of_nonneg hc199.1).symm) (by omega) <| Plan.load1 (j := (((t174 : Nat) : Int) - 2).toNat) h198 0 rfl rfl rfl (by omega) FRef02.sc73 <| Plan.move_int rfl rfl <| Plan.subI (a := ((t174 : Nat) : Int)) (b := 2) rfl rfl rfl (by omega) ?_
    obtain ⟨hc200, hR⟩ := hR
    refine Plan.idxArr1 (j := (((t174 : Nat) : Int) - 2).toNat) FRef02.arr119 rfl rfl (congrArg (Value.int .i64) (Int.toNat_of_nonneg hc200.1).symm) (by omega) <| Plan.load1 (j := (((t174 : Nat) : Int) - 2).toNat) h198 0 rfl rfl rfl (by omega) FRef02.sc73 <| Plan.move_int rfl rfl <| Plan.subI (a := ((t174 : Nat) : Int)) (b := 2) rfl rfl rfl (by omega) ?_
    obtain ⟨hc201, hR⟩ := hR
    refine Plan.idxArr1 (j := (((t174 : Nat) : Int) - 2).toNat) FRef02.arr119 rfl rfl (congrArg (Value.int .i64) (Int.toNat_of_nonneg hc201.1).symm) (by omega) <| Plan.load1 (j := (((t174 : Nat) : Int) - 2).toNat) h198 0 rfl rfl rfl (by omega) FRef02.sc73 ?_
    obtain ⟨x_203, hr202, hR⟩ := hR
    refine Plan.call (vs := [VN 17, VU .u64 (m175 ((((t174 : Nat) : Int) - 2).toNat))]) rfl FRef02.call78 rfl (letheref02_turn_ok  hr202 h198) ?_
    rintro _ w204 ⟨rfl, h204⟩
    refine ⟨_, rfl, .inl ⟨PIn.keep (PIn.cons 0 rfl (PIn.cons 0 rfl (PIn.cons 0 rfl PIn.nil))) h204, ?_⟩⟩
    obtain ⟨x_206, hr205, hR⟩ := hR
    refine Plan.call (vs := [VN 19, VU .u64 (m175 ((((t174 : Nat) : Int) - 2).toNat))]) rfl FRef02.call78 rfl (letheref02_turn_ok  hr205 h204) ?_
    rintro _ w207 ⟨rfl, h207⟩
    refine ⟨_, rfl, .inl ⟨PIn.keep (PIn.cons 0 rfl (PIn.cons 0 rfl (PIn.cons 0 rfl PIn.nil))) h207, ?_⟩⟩
    refine Plan.xorU .u64 (X := x_203) (Y := x_206) rfl rfl rfl ?_
    obtain ⟨x_209, hr208, hR⟩ := hR
    refine Plan.call (vs := [VN 10, VU .u64 (m175 ((((t174 : Nat) : Int) - 2).toNat))]) rfl FRef02.call79 rfl (letheref02_move_ok  hr208 h207) ?_
    rintro _ w210 ⟨rfl, h210⟩
    refine ⟨_, rfl, .inl ⟨PIn.keep (PIn.cons 0 rfl (PIn.cons 0 rfl (PIn.cons 0 rfl PIn.nil))) h210, ?_⟩⟩
    refine Plan.xorU .u64 (X := (x_203 ^^^ x_206)) (Y := x_209) rfl rfl rfl <| Plan.assign_int rfl rfl <| Plan.nil (k197 _ _ ?_); clear k197
    refine W.regionD FRef02.mixed [(0, true), (1, true), (2, true), (3, true), (4, true), (5, true), (6, true), (7, true), (8, true), (9, true), (10, true), (11, true), (12, true), (13, true), (14, true), (15, true), (16, false)] (by kernel_rfl) ?_
    have h211 := h210.drew
    refine Plan.move_int rfl rfl <| Plan.move_int rfl rfl <| Plan.move_int rfl rfl <| Plan.subI (a := ((t174 : Nat) : Int)) (b := 7) rfl rfl rfl (by omega) ?_
    obtain ⟨hc212, hR⟩ := hR
    refine Plan.idxArr1 (j := (((t174 : Nat) : Int) - 7).toNat) FRef02.arr119 rfl rfl (congrArg (Value.int .i64) (Int.toNat_of_nonneg hc212.1).symm) (by omega) <| Plan.load1 (j := (((t174 : Nat) : Int) - 7).toNat) h211 0 rfl rfl rfl (by omega) FRef02.sc73 <| Plan.addU .u64 (X := ((x_203 ^^^ x_206) ^^^ x_209)) (Y := (m175 ((((t174 : Nat) : Int) - 7).toNat))) rfl rfl rfl <| Plan.move_int rfl rfl <| Plan.addU .u64 (X := (((x_203 ^^^ x_206) ^^^ x_209) + (m175 ((((t174 : Nat) : Int) - 7).toNat)))) (Y := ((x_189 ^^^ x_192) ^^^ x_195)) rfl rfl rfl <| Plan.move_int rfl rfl <| Plan.subI (a := ((t174 : Nat) : Int)) (b := 16) rfl rfl rfl (by omega) ?_
    obtain ⟨hc213, hR⟩ := hR
    refine Plan.idxArr1 (j := (((t174 : Nat) : Int) - 16).toNat) FRef02.arr119 rfl rfl (congrArg (Value.int .i64) (Int.toNat_of_nonneg hc213.1).symm) (by omega) <| Plan.load1 (j := (((t174 : Nat) : Int) - 16).toNat) h211 0 rfl rfl rfl (by omega) FRef02.sc73 <| Plan.addU .u64 (X := ((((x_203 ^^^ x_206) ^^^ x_209) + (m175 ((((t174 : Nat) : Int) - 7).toNat))) + ((x_189 ^^^ x_192) ^^^ x_195))) (Y := (m175 ((((t174 : Nat) : Int) - 16).toNat))) rfl rfl rfl <| Plan.remU .u64 (X := (((((x_203 ^^^ x_206) ^^^ x_209) + (m175 ((((t174 : Nat) : Int) - 7).toNat))) + ((x_189 ^^^ x_192) ^^^ x_195)) + (m175 ((((t174 : Nat) : Int) - 16).toNat)))) (Y := 4294967296#64) rfl rfl rfl (by decide) <| Plan.idxArr1 (j := t174) FRef02.arr119 rfl rfl rfl (by omega) ?_
    refine Plan.storeU (j := t174) (X := ((((((x_203 ^^^ x_206) ^^^ x_209) + (m175 ((((t174 : Nat) : Int) - 7).toNat))) + ((x_189 ^^^ x_192) ^^^ x_195)) + (m175 ((((t174 : Nat) : Int) - 16).toNat))) % (4294967296#64))) h211 0 rfl rfl rfl rfl (by omega) FRef02.sz73 rfl fun w214 h214 => ?_
    simp only [zca, zna, zsz, zss] at h214
    refine Plan.nil ?_
    refine blockR_norm ?_
    refine k182 _ _ ?_; clear k182
    refine W.regionT [(0, true), (1, true), (2, true)] (by kernel_rfl) ?_
    refine Plan.move_int rfl rfl <| Plan.addN (a := t174) (b := 1) rfl rfl rfl (by omega) <| Plan.assign_int rfl rfl <| Plan.nil ?_
    exact iterR_norm ⟨_, hR, (zer (zer (zer zen))), h214⟩
   ·
    replace hR := ifF hR hc181
    refine W.condF (congrArg Value.bool (decide_eq_false hc181)) ?_
    refine W.exit (thenR_exit (iterR_exit (blockR_here ?_)))
    exact ⟨m175, (hx177 _ hR).symm, (zer (zer zen)), h178⟩
  ·
   rintro ev215 wl215 ⟨y_m176, hy215, he215, h215⟩
   obtain ⟨ev215, rfl⟩ := he215.open
   subst hy215
   replace hR := hR0177
   refine k107 _ _ ?_; clear k107
   refine W.seq_k fun _ k216 => W.regionT [(0, true), (1, false)] (by kernel_rfl) ?_
   refine Plan.loadA1 h215 0 rfl rfl rfl FRef02.agg119 ?_
   refine Plan.storeA (f' := fun q => VU .u64 (m176 q)) h215 1 rfl rfl rfl rfl (fun _ _ => rfl) FRef02.sz119 rfl fun w217 h217 => ?_
   simp only [zca, zna, zsz, zss] at h217
   refine Plan.nil (k216 _ _ ?_); clear k216
   refine W.ret (finR_ret ?_)
   have h218 := St.pickT (C := [_, _]) h217 [] (by decide)
   simp only [pick, zfc, zfn, zgz, zgs, zca, zna] at h218
   subst r
   refine RetOk.mk (.agg h217 rfl (.cons 1 rfl .nil) FRef02.agg119 .nil) ?_
   exact ⟨rfl, h218⟩
theorem letheref02_Block_ok {B : Nat} {w0 w : World} {L : List Rg} {iG3 : Nat} (hG3 : L[iG3]? = some ⟨some 3, 0, 64, fun q => VU .u64 (K64 q), false⟩) {state1 : Nat → BitVec 32} {block2 : Nat → BitVec 8} {r : (Nat → BitVec 32)} (hR : letheref02_Block state1 block2 r) (HST : St B w0 (L) w) :
  Calls Tryd.prog 74 #[AG [(8, fun q => VU .u32 (state1 q))], AG [(64, fun q => VU .u8 (block2 q))]] w fun e w' => e = .returned (AG [(8, fun q => VU .u32 (r q))]) ∧ St B w0 (L) w' := by
 refine W.enter 135 Tryd.func74 rfl rfl rfl ?_
 unfold letheref02_Block at hR
 refine W.seq_k fun _ k3 => W.regionT [(0, false), (1, false), (2, false)] (by kernel_rfl) ?_
 refine Plan.boxA HST rfl rfl PIn.nil fun b4 w4 hb4 h4 => ?_
 simp only [rngs, Nat.zero_add, Nat.reduceAdd, zca, zna] at h4
 refine Plan.boxA h4 rfl rfl PIn.nil fun b5 w5 hb5 h5 => ?_
 simp only [rngs, Nat.zero_add, Nat.reduceAdd, zca, zna] at h5
 refine Plan.alloc h5 rfl FRef02.z94 PIn.nil fun b6 w6 hb6 h6 => ?_
 simp only [rngs, Nat.zero_add, Nat.reduceAdd, zca, zna] at h6
 refine Plan.nil (k3 _ _ ?_); clear k3
 refine W.seq_k fun _ k7 => W.regionT [(0, true), (1, false), (2, false), (3, false)] (by kernel_rfl) ?_
 refine Plan.loadA1 h6 1 rfl rfl rfl FRef02.agg95 ?_
 obtain ⟨x_9, hr8, hR⟩ := hR
 refine Plan.call (vs := [AG [(64, fun q => VU .u8 (block2 q))]]) rfl FRef02.call77 rfl (letheref02_schedule_ok  hr8 h6) ?_
 rintro _ w10 ⟨rfl, h10⟩
 refine ⟨_, rfl, .inr ⟨rfl, ?_⟩⟩
 refine Plan.alloc h10 rfl FRef02.z119 PIn.nil fun b11 w11 hb11 h11 => ?_
 simp only [rngs, Nat.zero_add, Nat.reduceAdd, zca, zna] at h11
 refine Plan.storeA (f' := fun q => VU .u64 (x_9 q)) h11 0 rfl rfl rfl rfl (fun _ _ => rfl) FRef02.sz119 rfl fun w12 h12 => ?_
 simp only [zca, zna, zsz, zss] at h12
 refine Plan.nil (k7 _ _ ?_); clear k7
 refine W.seq_k fun _ k13 => W.regionT [(0, false)] (by kernel_rfl) ?_
 refine Plan.alloc h12 rfl FRef02.z118 PIn.nil fun b14 w14 hb14 h14 => ?_
 simp only [rngs, Nat.zero_add, Nat.reduceAdd, zca, zna] at h14
 refine Plan.nil (k13 _ _ ?_); clear k13
 refine W.seq_k fun _ k15 => W.seq_k fun _ k16 => ?_
 refine W.regionT [(0, true)] (by kernel_rfl) ?_
 refine Plan.assign_int rfl rfl <| Plan.nil (k16 _ _ ?_); clear k16
 obtain ⟨m30, hI31, hR031⟩ := hR
 refine W.cutN (fun e w => ∃ y_m30 : Nat → BitVec 64, m30 = y_m30 ∧ EnvHas e [(2, .pointer (some ⟨b4, 0, none⟩)), (4, .pointer (some ⟨b6, 0, none⟩)), (5, .pointer (some ⟨b11, 0, none⟩)), (6, .pointer (some ⟨b14, 0, none⟩))] ∧ St B w0 (⟨some b14, 0, 8, fun q => VU .u64 (y_m30 q), true⟩ :: ⟨some b11, 0, 64, fun q => VU .u64 (x_9 q), true⟩ :: ⟨some b6, 0, 8, fun q => VU .u32 ((fun _ => 0#32) q), true⟩ :: ⟨some b4, 0, 8, fun q => VU .u32 (state1 q), true⟩ :: L) w) ?_ ?_
 ·
  refine W.block ?_
  have h32 := St.pickT (C := [_, _, _, _, _]) h14 [0, 1, 2, 4] (by decide)
  simp only [pick, zfc, zfn, zgz, zgs, zca, zna] at h32
  refine W.iter hI31 (fun (s31 : (Nat × (Nat → BitVec 64))) e w => EnvHas e [(2, .pointer (some ⟨b4, 0, none⟩)), (4, .pointer (some ⟨b6, 0, none⟩)), (5, .pointer (some ⟨b11, 0, none⟩)), (6, .pointer (some ⟨b14, 0, none⟩)), (7, VN s31.1)] ∧ St B w0 (⟨some b14, 0, 8, fun q => VU .u64 (s31.2 q), true⟩ :: ⟨some b11, 0, 64, fun q => VU .u64 (x_9 q), true⟩ :: ⟨some b6, 0, 8, fun q => VU .u32 ((fun _ => 0#32) q), true⟩ :: ⟨some b4, 0, 8, fun q => VU .u32 (state1 q), true⟩ :: L) w) ⟨(zer (zer (zer (zer (zer zen))))), h32⟩ ?_
  rintro ⟨i_28, m29⟩ o31 hR hx31 ev33 wl33 ⟨he33, h33⟩
  obtain ⟨ev33, rfl⟩ := he33.open
  unfold letheref02_Block_l0 at hR
  refine W.seq_k fun _ k34 => W.seq_k fun _ k35 => ?_
  refine W.regionT [(0, true), (1, true)] (by kernel_rfl) ?_
  refine Plan.move_int rfl rfl <| Plan.cmpP (a := (((i_28 : Nat) : Int) : Int)) (b := (8 : Int)) (p := i_28 < 8) rfl rfl rfl rfl icmp_ltN <| Plan.nil (k35 _ _ ?_); clear k35
  by_cases hc36 : i_28 < 8
  ·
   replace hR := ifT hR hc36
   refine W.condT (congrArg Value.bool (decide_eq_true hc36)) ?_
   refine W.skip ?_
   refine k34 _ _ ?_; clear k34
   refine W.seq_k fun _ k37 => ?_
   refine W.block ?_
   refine W.regionT [(0, true), (1, true), (2, true), (3, true), (4, true), (5, true), (6, false)] (by kernel_rfl) ?_
   refine Plan.move_int rfl rfl <| Plan.move_int rfl rfl <| Plan.idxArr1 (j := i_28) FRef02.arr94 rfl rfl rfl (by omega) <| Plan.load1 (j := i_28) h33 3 rfl rfl rfl (by omega) FRef02.sc93 <| Plan.convUU .u64 (X := (state1 i_28)) FRef02.u73 FRef02.some93 rfl rfl <| Plan.idxArr1 (j := i_28) FRef02.arr118 rfl rfl rfl (by omega) ?_
   refine Plan.storeU (j := i_28) (X := ((state1 i_28).setWidth 64)) h33 0 rfl rfl rfl rfl (by omega) FRef02.sz73 rfl fun w38 h38 => ?_
   simp only [zca, zna, zsz, zss] at h38
   refine Plan.nil ?_
   refine blockR_norm ?_
   refine k37 _ _ ?_; clear k37
   refine W.regionT [(0, true), (1, true), (2, true)] (by kernel_rfl) ?_
   refine Plan.move_int rfl rfl <| Plan.addN (a := i_28) (b := 1) rfl rfl rfl (by omega) <| Plan.assign_int rfl rfl <| Plan.nil ?_
   exact iterR_norm ⟨_, hR, (zer (zer (zer (zer (zer zen))))), h38⟩
  ·
   replace hR := ifF hR hc36
   refine W.condF (congrArg Value.bool (decide_eq_false hc36)) ?_
   refine W.exit (thenR_exit (iterR_exit (blockR_here ?_)))
   exact ⟨m29, (hx31 _ hR).symm, (zer (zer (zer (zer zen)))), h33⟩
 ·
  rintro ev39 wl39 ⟨y_m30, hy39, he39, h39⟩
  obtain ⟨ev39, rfl⟩ := he39.open
  subst hy39
  replace hR := hR031
  refine k15 _ _ ?_; clear k15
  refine W.seq_k fun _ k40 => W.seq_k fun _ k41 => ?_
  refine W.regionT [(0, true)] (by kernel_rfl) ?_
  refine Plan.assign_int rfl rfl <| Plan.nil (k41 _ _ ?_); clear k41
  obtain ⟨m199, hI200, hR0200⟩ := hR
  refine W.cutN (fun e w => ∃ y_m199 : Nat → BitVec 64, m199 = y_m199 ∧ EnvHas e [(2, .pointer (some ⟨b4, 0, none⟩)), (4, .pointer (some ⟨b6, 0, none⟩)), (6, .pointer (some ⟨b14, 0, none⟩))] ∧ St B w0 (⟨some b14, 0, 8, fun q => VU .u64 (y_m199 q), true⟩ :: ⟨some b6, 0, 8, fun q => VU .u32 ((fun _ => 0#32) q), true⟩ :: ⟨some b4, 0, 8, fun q => VU .u32 (state1 q), true⟩ :: L) w) ?_ ?_
  ·
   refine W.block ?_
   refine W.iter hI200 (fun (s200 : (Nat × (Nat → BitVec 64))) e w => EnvHas e [(2, .pointer (some ⟨b4, 0, none⟩)), (4, .pointer (some ⟨b6, 0, none⟩)), (5, .pointer (some ⟨b11, 0, none⟩)), (6, .pointer (some ⟨b14, 0, none⟩)), (8, VN s200.1)] ∧ St B w0 (⟨some b14, 0, 8, fun q => VU .u64 (s200.2 q), true⟩ :: ⟨some b11, 0, 64, fun q => VU .u64 (x_9 q), true⟩ :: ⟨some b6, 0, 8, fun q => VU .u32 ((fun _ => 0#32) q), true⟩ :: ⟨some b4, 0, 8, fun q => VU .u32 (state1 q), true⟩ :: L) w) ⟨(zer (zer (zer (zer (zer zen))))), h39⟩ ?_
   rintro ⟨t197, m198⟩ o200 hR hx200 ev201 wl201 ⟨he201, h201⟩
   obtain ⟨ev201, rfl⟩ := he201.open
   unfold letheref02_Block_l1 at hR
   refine W.seq_k fun _ k202 => W.seq_k fun _ k203 => ?_
   refine W.regionT [(0, true), (1, true)] (by kernel_rfl) ?_
   refine Plan.move_int rfl rfl <| Plan.cmpP (a := (((t197 : Nat) : Int) : Int)) (b := (64 : Int)) (p := t197 < 64) rfl rfl rfl rfl icmp_ltN <| Plan.nil (k203 _ _ ?_); clear k203
   by_cases hc204 : t197 < 64
   ·
    replace hR := ifT hR hc204
    refine W.condT (congrArg Value.bool (decide_eq_true hc204)) ?_
    refine W.skip ?_
    refine k202 _ _ ?_; clear k202
    refine W.seq_k fun _ k205 => ?_
    refine W.block ?_
    refine W.seq_k fun _ k206 => ?_
    refine W.regionD FRef02.mixed [(0, true), (1, true), (2, true), (3, true), (4, true), (5, true)] (by kernel_rfl) ?_
    have h207 := h201.drew
    refine Plan.idxArr1 (j := 0) FRef02.arr118 rfl rfl rfl (by omega) <| Plan.load1 (j := 0) h207 0 rfl rfl rfl (by omega) FRef02.sc73 <| Plan.idxArr1 (j := 4) FRef02.arr118 rfl rfl rfl (by omega) <| Plan.load1 (j := 4) h207 0 rfl rfl rfl (by omega) FRef02.sc73 <| Plan.assign_int rfl rfl <| Plan.assign_int rfl rfl <| Plan.nil (k206 _ _ ?_); clear k206
    refine W.seq_k fun _ k208 => W.regionT [(0, true), (1, false), (2, true), (3, false), (4, true), (5, true), (6, false), (7, true), (8, true)] (by kernel_rfl) ?_
    refine Plan.move_int rfl rfl ?_
    obtain ⟨x_210, hr209, hR⟩ := hR
    refine Plan.call (vs := [VN 2, VU .u64 (m198 0)]) rfl FRef02.call78 rfl (letheref02_turn_ok  hr209 h207) ?_
    rintro _ w211 ⟨rfl, h211⟩
    refine ⟨_, rfl, .inl ⟨PIn.keep PIn.nil h211, ?_⟩⟩
    refine Plan.move_int rfl rfl ?_
    obtain ⟨x_213, hr212, hR⟩ := hR
    refine Plan.call (vs := [VN 13, VU .u64 (m198 0)]) rfl FRef02.call78 rfl (letheref02_turn_ok  hr212 h211) ?_
    rintro _ w214 ⟨rfl, h214⟩
    refine ⟨_, rfl, .inl ⟨PIn.keep PIn.nil h214, ?_⟩⟩
    refine Plan.xorU .u64 (X := x_210) (Y := x_213) rfl rfl rfl <| Plan.move_int rfl rfl ?_
    obtain ⟨x_216, hr215, hR⟩ := hR
    refine Plan.call (vs := [VN 22, VU .u64 (m198 0)]) rfl FRef02.call78 rfl (letheref02_turn_ok  hr215 h214) ?_
    rintro _ w217 ⟨rfl, h217⟩
    refine ⟨_, rfl, .inl ⟨PIn.keep PIn.nil h217, ?_⟩⟩
    refine Plan.xorU .u64 (X := (x_210 ^^^ x_213)) (Y := x_216) rfl rfl rfl <| Plan.assign_int rfl rfl <| Plan.nil (k208 _ _ ?_); clear k208
    refine W.seq_k fun _ k218 => W.regionT [(0, true), (1, false), (2, true), (3, false), (4, true), (5, true), (6, false), (7, true), (8, true)] (by kernel_rfl) ?_
    refine Plan.move_int rfl rfl ?_
    obtain ⟨x_220, hr219, hR⟩ := hR
    refine Plan.call (vs := [VN 6, VU .u64 (m198 4)]) rfl FRef02.call78 rfl (letheref02_turn_ok  hr219 h217) ?_
    rintro _ w221 ⟨rfl, h221⟩
    refine ⟨_, rfl, .inl ⟨PIn.keep PIn.nil h221, ?_⟩⟩
    refine Plan.move_int rfl rfl ?_
    obtain ⟨x_223, hr222, hR⟩ := hR
    refine Plan.call (vs := [VN 11, VU .u64 (m198 4)]) rfl FRef02.call78 rfl (letheref02_turn_ok  hr222 h221) ?_
    rintro _ w224 ⟨rfl, h224⟩
    refine ⟨_, rfl, .inl ⟨PIn.keep PIn.nil h224, ?_⟩⟩
    refine Plan.xorU .u64 (X := x_220) (Y := x_223) rfl rfl rfl <| Plan.move_int rfl rfl ?_
    obtain ⟨x_226, hr225, hR⟩ := hR
    refine Plan.call (vs := [VN 25, VU .u64 (m198 4)]) rfl FRef02.call78 rfl (letheref02_turn_ok  hr225 h224) ?_
    rintro _ w227 ⟨rfl, h227⟩
    refine ⟨_, rfl, .inl ⟨PIn.keep PIn.nil h227, ?_⟩⟩
    refine Plan.xorU .u64 (X := (x_220 ^^^ x_223)) (Y := x_226) rfl rfl rfl <| Plan.assign_int rfl rfl <| Plan.nil (k218 _ _ ?_); clear k218
    refine W.seq_k fun _ k228 => W.regionT [(0, true), (1, true), (2, true), (3, true), (4, true), (5, true), (6, true), (7, true), (8, true), (9, true), (10, true)] (by kernel_rfl) ?_
    refine Plan.move_int rfl rfl <| Plan.idxArr1 (j := 5) FRef02.arr118 rfl rfl rfl (by omega) <| Plan.load1 (j := 5) h227 0 rfl rfl rfl (by omega) FRef02.sc73 <| Plan.andU .u64 (X := (m198 4)) (Y := (m198 5)) rfl rfl rfl <| Plan.move_int rfl rfl <| Plan.subU .u64 (X := 4294967295#64) (Y := (m198 4)) rfl rfl rfl <| Plan.idxArr1 (j := 6) FRef02.arr118 rfl rfl rfl (by omega) <| Plan.load1 (j := 6) h227 0 rfl rfl rfl (by omega) FRef02.sc73 ?_
    refine Plan.andU .u64 (X := ((4294967295#64) - (m198 4))) (Y := (m198 6)) rfl rfl rfl <| Plan.xorU .u64 (X := ((m198 4) &&& (m198 5))) (Y := (((4294967295#64) - (m198 4)) &&& (m198 6))) rfl rfl rfl <| Plan.assign_int rfl rfl <| Plan.nil (k228 _ _ ?_); clear k228
    refine W.seq_k fun _ k229 => W.regionT [(0, true), (1, true), (2, true), (3, true), (4, true), (5, true), (6, true), (7, true), (8, true), (9, true), (10, true), (11, true), (12, true), (13, true), (14, true), (15, true)] (by kernel_rfl) ?_
    refine Plan.move_int rfl rfl <| Plan.idxArr1 (j := 1) FRef02.arr118 rfl rfl rfl (by omega) <| Plan.load1 (j := 1) h227 0 rfl rfl rfl (by omega) FRef02.sc73 <| Plan.andU .u64 (X := (m198 0)) (Y := (m198 1)) rfl rfl rfl <| Plan.move_int rfl rfl <| Plan.idxArr1 (j := 2) FRef02.arr118 rfl rfl rfl (by omega) <| Plan.load1 (j := 2) h227 0 rfl rfl rfl (by omega) FRef02.sc73 <| Plan.andU .u64 (X := (m198 0)) (Y := (m198 2)) rfl rfl rfl ?_
    refine Plan.xorU .u64 (X := ((m198 0) &&& (m198 1))) (Y := ((m198 0) &&& (m198 2))) rfl rfl rfl <| Plan.idxArr1 (j := 1) FRef02.arr118 rfl rfl rfl (by omega) <| Plan.load1 (j := 1) h227 0 rfl rfl rfl (by omega) FRef02.sc73 <| Plan.idxArr1 (j := 2) FRef02.arr118 rfl rfl rfl (by omega) <| Plan.load1 (j := 2) h227 0 rfl rfl rfl (by omega) FRef02.sc73 <| Plan.andU .u64 (X := (m198 1)) (Y := (m198 2)) rfl rfl rfl <| Plan.xorU .u64 (X := (((m198 0) &&& (m198 1)) ^^^ ((m198 0) &&& (m198 2)))) (Y := ((m198 1) &&& (m198 2))) rfl rfl rfl <| Plan.assign_int rfl rfl ?_
    refine Plan.nil (k229 _ _ ?_); clear k229
    refine W.seq_k fun _ k230 => ?_
    refine W.regionD FRef02.mixed [(0, true), (1, true), (2, true), (3, true), (4, true), (5, true), (6, true), (7, true), (8, true), (9, true), (10, true), (11, true), (12, true), (13, true), (14, true)] (by kernel_rfl) ?_
    have h231 := h227.drew
    refine Plan.idxArr1 (j := 7) FRef02.arr118 rfl rfl rfl (by omega) <| Plan.load1 (j := 7) h231 0 rfl rfl rfl (by omega) FRef02.sc73 <| Plan.move_int rfl rfl <| Plan.addU .u64 (X := (m198 7)) (Y := ((x_220 ^^^ x_223) ^^^ x_226)) rfl rfl rfl <| Plan.move_int rfl rfl <| Plan.addU .u64 (X := ((m198 7) + ((x_220 ^^^ x_223) ^^^ x_226))) (Y := (((m198 4) &&& (m198 5)) ^^^ (((4294967295#64) - (m198 4)) &&& (m198 6)))) rfl rfl rfl <| Plan.move_int rfl rfl <| Plan.idxArr1 (j := t197) FRef02.arr119 rfl rfl rfl (by omega) ?_
    refine Plan.load1 (j := t197) h231 (iG3 + 4) rfl rfl hG3 (by omega) FRef02.sc73 <| Plan.addU .u64 (X := (((m198 7) + ((x_220 ^^^ x_223) ^^^ x_226)) + (((m198 4) &&& (m198 5)) ^^^ (((4294967295#64) - (m198 4)) &&& (m198 6))))) (Y := (K64 t197)) rfl rfl rfl <| Plan.move_int rfl rfl <| Plan.idxArr1 (j := t197) FRef02.arr119 rfl rfl rfl (by omega) <| Plan.load1 (j := t197) h231 1 rfl rfl rfl (by omega) FRef02.sc73 <| Plan.addU .u64 (X := ((((m198 7) + ((x_220 ^^^ x_223) ^^^ x_226)) + (((m198 4) &&& (m198 5)) ^^^ (((4294967295#64) - (m198 4)) &&& (m198 6)))) + (K64 t197))) (Y := (x_9 t197)) rfl rfl rfl <| Plan.assign_int rfl rfl <| Plan.nil (k230 _ _ ?_); clear k230
    refine W.seq_k fun _ k232 => W.regionT [(0, true), (1, true), (2, true), (3, true)] (by kernel_rfl) ?_
    refine Plan.move_int rfl rfl <| Plan.move_int rfl rfl <| Plan.addU .u64 (X := ((x_210 ^^^ x_213) ^^^ x_216)) (Y := ((((m198 0) &&& (m198 1)) ^^^ ((m198 0) &&& (m198 2))) ^^^ ((m198 1) &&& (m198 2)))) rfl rfl rfl <| Plan.assign_int rfl rfl <| Plan.nil (k232 _ _ ?_); clear k232
    refine W.seq_k fun _ k233 => W.seq_k fun _ k234 => ?_
    refine W.regionT [(0, true)] (by kernel_rfl) ?_
    refine Plan.assign_int rfl rfl <| Plan.nil (k234 _ _ ?_); clear k234
    obtain ⟨m263, hI264, hR0264⟩ := hR
    refine W.cutN (fun e w => ∃ y_m263 : Nat → BitVec 64, m263 = y_m263 ∧ EnvHas e [(2, .pointer (some ⟨b4, 0, none⟩)), (4, .pointer (some ⟨b6, 0, none⟩)), (5, .pointer (some ⟨b11, 0, none⟩)), (6, .pointer (some ⟨b14, 0, none⟩)), (8, VN t197), (15, VU .u64 (((((m198 7) + ((x_220 ^^^ x_223) ^^^ x_226)) + (((m198 4) &&& (m198 5)) ^^^ (((4294967295#64) - (m198 4)) &&& (m198 6)))) + (K64 t197)) + (x_9 t197))), (16, VU .u64 (((x_210 ^^^ x_213) ^^^ x_216) + ((((m198 0) &&& (m198 1)) ^^^ ((m198 0) &&& (m198 2))) ^^^ ((m198 1) &&& (m198 2)))))] ∧ St B w0 (⟨some b14, 0, 8, fun q => VU .u64 (y_m263 q), true⟩ :: ⟨some b11, 0, 64, fun q => VU .u64 (x_9 q), true⟩ :: ⟨some b6, 0, 8, fun q => VU .u32 ((fun _ => 0#32) q), true⟩ :: ⟨some b4, 0, 8, fun q => VU .u32 (state1 q), true⟩ :: L) w) ?_ ?_
    ·
     refine W.block ?_
     refine W.iter hI264 (fun (s264 : (Int × (Nat → BitVec 64))) e w => EnvHas e [(2, .pointer (some ⟨b4, 0, none⟩)), (4, .pointer (some ⟨b6, 0, none⟩)), (5, .pointer (some ⟨b11, 0, none⟩)), (6, .pointer (some ⟨b14, 0, none⟩)), (8, VN t197), (15, VU .u64 (((((m198 7) + ((x_220 ^^^ x_223) ^^^ x_226)) + (((m198 4) &&& (m198 5)) ^^^ (((4294967295#64) - (m198 4)) &&& (m198 6)))) + (K64 t197)) + (x_9 t197))), (16, VU .u64 (((x_210 ^^^ x_213) ^^^ x_216) + ((((m198 0) &&& (m198 1)) ^^^ ((m198 0) &&& (m198 2))) ^^^ ((m198 1) &&& (m198 2))))), (17, .int .i64 s264.1)] ∧ St B w0 (⟨some b14, 0, 8, fun q => VU .u64 (s264.2 q), true⟩ :: ⟨some b11, 0, 64, fun q => VU .u64 (x_9 q), true⟩ :: ⟨some b6, 0, 8, fun q => VU .u32 ((fun _ => 0#32) q), true⟩ :: ⟨some b4, 0, 8, fun q => VU .u32 (state1 q), true⟩ :: L) w) ⟨(zer (zer (zer (zer (zer (zer (zer (zer zen)))))))), h231⟩ ?_
     rintro ⟨i_261, m262⟩ o264 hR hx264 ev265 wl265 ⟨he265, h265⟩
     obtain ⟨ev265, rfl⟩ := he265.open
     unfold letheref02_Block_l2 at hR
     refine W.seq_k fun _ k266 => W.seq_k fun _ k267 => ?_
     refine W.regionT [(0, true), (1, true)] (by kernel_rfl) ?_
     refine Plan.move_int rfl rfl <| Plan.cmpP (a := (i_261 : Int)) (b := (0 : Int)) (p := 0 < i_261) rfl rfl rfl rfl icmp_gt <| Plan.nil (k267 _ _ ?_); clear k267
     by_cases hc268 : 0 < i_261
     ·
      replace hR := ifT hR hc268
      refine W.condT (congrArg Value.bool (decide_eq_true hc268)) ?_
      refine W.skip ?_
      refine k266 _ _ ?_; clear k266
      refine W.seq_k fun _ k269 => ?_
      refine W.block ?_
      refine W.regionT [(0, true), (1, true), (2, true), (3, true), (4, true), (5, true), (6, false)] (by kernel_rfl) ?_
      refine Plan.move_int rfl rfl <| Plan.move_int rfl rfl ?_
      obtain ⟨hc270, hR⟩ := hR
      refine Plan.subI (a := i_261) (b := 1) rfl rfl rfl (by omega) ?_
      obtain ⟨hc271, hR⟩ := hR
      refine Plan.idxArr1 (j := (i_261 - 1).toNat) FRef02.arr118 rfl rfl (congrArg (Value.int .i64) (Int.toNat_of_nonneg hc271.1).symm) (by omega) <| Plan.load1 (j := (i_261 - 1).toNat) h265 0 rfl rfl rfl (by omega) FRef02.sc73 ?_
      obtain ⟨hc272, hR⟩ := hR
      refine Plan.idxArr1 (j := i_261.toNat) FRef02.arr118 rfl rfl (congrArg (Value.int .i64) (Int.toNat_of_nonneg hc272.1).symm) (by omega) ?_
      refine Plan.storeU (j := i_261.toNat) (X := (m262 ((i_261 - 1).toNat))) h265 0 rfl rfl rfl rfl (by omega) FRef02.sz73 rfl fun w273 h273 => ?_
      simp only [zca, zna, zsz, zss] at h273
      refine Plan.nil ?_
      refine blockR_norm ?_
      refine k269 _ _ ?_; clear k269
      refine W.regionT [(0, true), (1, true), (2, true)] (by kernel_rfl) ?_
      refine Plan.move_int rfl rfl ?_
      obtain ⟨hc274, hR⟩ := hR
      refine Plan.subI (a := i_261) (b := 1) rfl rfl rfl (by omega) <| Plan.assign_int rfl rfl <| Plan.nil ?_
      exact iterR_norm ⟨_, hR, (zer (zer (zer (zer (zer (zer (zer (zer zen)))))))), h273⟩
     ·
      replace hR := ifF hR hc268
      refine W.condF (congrArg Value.bool (decide_eq_false hc268)) ?_
      refine W.exit (thenR_exit (iterR_exit (blockR_here ?_)))
      exact ⟨m262, (hx264 _ hR).symm, (zer (zer (zer (zer (zer (zer (zer zen))))))), h265⟩
    ·
     rintro ev275 wl275 ⟨y_m263, hy275, he275, h275⟩
     obtain ⟨ev275, rfl⟩ := he275.open
     subst hy275
     replace hR := hR0264
     refine k233 _ _ ?_; clear k233
     refine W.seq_k fun _ k276 => W.regionT [(0, true), (1, true), (2, true), (3, true), (4, true), (5, true), (6, false)] (by kernel_rfl) ?_
     refine Plan.idxArr1 (j := 4) FRef02.arr118 rfl rfl rfl (by omega) <| Plan.load1 (j := 4) h275 0 rfl rfl rfl (by omega) FRef02.sc73 <| Plan.move_int rfl rfl <| Plan.addU .u64 (X := (m263 4)) (Y := (((((m198 7) + ((x_220 ^^^ x_223) ^^^ x_226)) + (((m198 4) &&& (m198 5)) ^^^ (((4294967295#64) - (m198 4)) &&& (m198 6)))) + (K64 t197)) + (x_9 t197))) rfl rfl rfl <| Plan.remU .u64 (X := ((m263 4) + (((((m198 7) + ((x_220 ^^^ x_223) ^^^ x_226)) + (((m198 4) &&& (m198 5)) ^^^ (((4294967295#64) - (m198 4)) &&& (m198 6)))) + (K64 t197)) + (x_9 t197)))) (Y := 4294967296#64) rfl rfl rfl (by decide) <| Plan.idxArr1 (j := 4) FRef02.arr118 rfl rfl rfl (by omega) ?_
     refine Plan.storeU (j := 4) (X := (((m263 4) + (((((m198 7) + ((x_220 ^^^ x_223) ^^^ x_226)) + (((m198 4) &&& (m198 5)) ^^^ (((4294967295#64) - (m198 4)) &&& (m198 6)))) + (K64 t197)) + (x_9 t197))) % (4294967296#64))) h275 0 rfl rfl rfl rfl (by omega) FRef02.sz73 rfl fun w277 h277 => ?_
     simp only [zca, zna, zsz, zss] at h277
     refine Plan.nil (k276 _ _ ?_); clear k276
     refine W.regionT [(0, true), (1, true), (2, true), (3, true), (4, true), (5, false)] (by kernel_rfl) ?_
     refine Plan.move_int rfl rfl <| Plan.move_int rfl rfl <| Plan.addU .u64 (X := (((((m198 7) + ((x_220 ^^^ x_223) ^^^ x_226)) + (((m198 4) &&& (m198 5)) ^^^ (((4294967295#64) - (m198 4)) &&& (m198 6)))) + (K64 t197)) + (x_9 t197))) (Y := (((x_210 ^^^ x_213) ^^^ x_216) + ((((m198 0) &&& (m198 1)) ^^^ ((m198 0) &&& (m198 2))) ^^^ ((m198 1) &&& (m198 2))))) rfl rfl rfl <| Plan.remU .u64 (X := ((((((m198 7) + ((x_220 ^^^ x_223) ^^^ x_226)) + (((m198 4) &&& (m198 5)) ^^^ (((4294967295#64) - (m198 4)) &&& (m198 6)))) + (K64 t197)) + (x_9 t197)) + (((x_210 ^^^ x_213) ^^^ x_216) + ((((m198 0) &&& (m198 1)) ^^^ ((m198 0) &&& (m198 2))) ^^^ ((m198 1) &&& (m198 2)))))) (Y := 4294967296#64) rfl rfl rfl (by decide) <| Plan.idxArr1 (j := 0) FRef02.arr118 rfl rfl rfl (by omega) ?_
     refine Plan.storeU (j := 0) (X := (((((((m198 7) + ((x_220 ^^^ x_223) ^^^ x_226)) + (((m198 4) &&& (m198 5)) ^^^ (((4294967295#64) - (m198 4)) &&& (m198 6)))) + (K64 t197)) + (x_9 t197)) + (((x_210 ^^^ x_213) ^^^ x_216) + ((((m198 0) &&& (m198 1)) ^^^ ((m198 0) &&& (m198 2))) ^^^ ((m198 1) &&& (m198 2))))) % (4294967296#64))) h277 0 rfl rfl rfl rfl (by omega) FRef02.sz73 rfl fun w278 h278 => ?_
     simp only [zca, zna, zsz, zss] at h278
     refine Plan.nil ?_
     refine blockR_norm ?_
     refine k205 _ _ ?_; clear k205
     refine W.regionT [(0, true), (1, true), (2, true)] (by kernel_rfl) ?_
     refine Plan.move_int rfl rfl <| Plan.addN (a := t197) (b := 1) rfl rfl rfl (by omega) <| Plan.assign_int rfl rfl <| Plan.nil ?_
     exact iterR_norm ⟨_, hR, (zer (zer (zer (zer (zer zen))))), h278⟩
   ·
    replace hR := ifF hR hc204
    refine W.condF (congrArg Value.bool (decide_eq_false hc204)) ?_
    refine W.exit (thenR_exit (iterR_exit (blockR_here ?_)))
    have h279 := St.pickT (C := [_, _, _, _]) h201 [0, 2, 3] (by decide)
    simp only [pick, zfc, zfn, zgz, zgs, zca, zna] at h279
    exact ⟨m198, (hx200 _ hR).symm, (zer (zer (zer zen))), h279⟩
  ·
   rintro ev280 wl280 ⟨y_m199, hy280, he280, h280⟩
   obtain ⟨ev280, rfl⟩ := he280.open
   subst hy280
   replace hR := hR0200
   refine k40 _ _ ?_; clear k40
   refine W.seq_k fun _ k281 => W.seq_k fun _ k282 => ?_
   refine W.regionT [(0, true)] (by kernel_rfl) ?_
   refine Plan.assign_int rfl rfl <| Plan.nil (k282 _ _ ?_); clear k282
   obtain ⟨m298, hI299, hR0299⟩ := hR
   refine W.cutN (fun e w => ∃ y_m298 : Nat → BitVec 32, m298 = y_m298 ∧ EnvHas e [(2, .pointer (some ⟨b4, 0, none⟩)), (4, .pointer (some ⟨b6, 0, none⟩))] ∧ St B w0 (⟨some b6, 0, 8, fun q => VU .u32 ((fun _ => 0#32) q), true⟩ :: ⟨some b4, 0, 8, fun q => VU .u32 (y_m298 q), true⟩ :: L) w) ?_ ?_
   ·
    refine W.block ?_
    refine W.iter hI299 (fun (s299 : (Nat × (Nat → BitVec 32))) e w => EnvHas e [(2, .pointer (some ⟨b4, 0, none⟩)), (4, .pointer (some ⟨b6, 0, none⟩)), (6, .pointer (some ⟨b14, 0, none⟩)), (18, VN s299.1)] ∧ St B w0 (⟨some b14, 0, 8, fun q => VU .u64 (m199 q), true⟩ :: ⟨some b6, 0, 8, fun q => VU .u32 ((fun _ => 0#32) q), true⟩ :: ⟨some b4, 0, 8, fun q => VU .u32 (s299.2 q), true⟩ :: L) w) ⟨(zer (zer (zer (zer zen)))), h280⟩ ?_
    rintro ⟨i_296, m297⟩ o299 hR hx299 ev300 wl300 ⟨he300, h300⟩
    obtain ⟨ev300, rfl⟩ := he300.open
    unfold letheref02_Block_l3 at hR
    refine W.seq_k fun _ k301 => W.seq_k fun _ k302 => ?_
    refine W.regionT [(0, true), (1, true)] (by kernel_rfl) ?_
    refine Plan.move_int rfl rfl <| Plan.cmpP (a := (((i_296 : Nat) : Int) : Int)) (b := (8 : Int)) (p := i_296 < 8) rfl rfl rfl rfl icmp_ltN <| Plan.nil (k302 _ _ ?_); clear k302
    by_cases hc303 : i_296 < 8
    ·
     replace hR := ifT hR hc303
     refine W.condT (congrArg Value.bool (decide_eq_true hc303)) ?_
     refine W.skip ?_
     refine k301 _ _ ?_; clear k301
     refine W.seq_k fun _ k304 => ?_
     refine W.block ?_
     refine W.regionD FRef02.mixed [(0, true), (1, true), (2, true), (3, true), (4, true), (5, true), (6, true), (7, true), (8, true), (9, true), (10, true), (11, true), (12, false)] (by kernel_rfl) ?_
     have h305 := h300.drew
     refine Plan.move_int rfl rfl <| Plan.move_int rfl rfl <| Plan.idxArr1 (j := i_296) FRef02.arr94 rfl rfl rfl (by omega) <| Plan.load1 (j := i_296) h305 2 rfl rfl rfl (by omega) FRef02.sc93 <| Plan.convUU .u64 (X := (m297 i_296)) FRef02.u73 FRef02.some93 rfl rfl <| Plan.move_int rfl rfl <| Plan.idxArr1 (j := i_296) FRef02.arr118 rfl rfl rfl (by omega) <| Plan.load1 (j := i_296) h305 0 rfl rfl rfl (by omega) FRef02.sc73 ?_
     refine Plan.addU .u64 (X := ((m297 i_296).setWidth 64)) (Y := (m199 i_296)) rfl rfl rfl <| Plan.remU .u64 (X := (((m297 i_296).setWidth 64) + (m199 i_296))) (Y := 4294967296#64) rfl rfl rfl (by decide) <| Plan.convUU .u32 (X := ((((m297 i_296).setWidth 64) + (m199 i_296)) % (4294967296#64))) FRef02.u93 FRef02.some73 rfl rfl <| Plan.idxArr1 (j := i_296) FRef02.arr94 rfl rfl rfl (by omega) ?_
     refine Plan.storeU (j := i_296) (X := (((((m297 i_296).setWidth 64) + (m199 i_296)) % (4294967296#64)).setWidth 32)) h305 2 rfl rfl rfl rfl (by omega) FRef02.sz93 rfl fun w306 h306 => ?_
     simp only [zca, zna, zsz, zss] at h306
     refine Plan.nil ?_
     refine blockR_norm ?_
     refine k304 _ _ ?_; clear k304
     refine W.regionT [(0, true), (1, true), (2, true)] (by kernel_rfl) ?_
     refine Plan.move_int rfl rfl <| Plan.addN (a := i_296) (b := 1) rfl rfl rfl (by omega) <| Plan.assign_int rfl rfl <| Plan.nil ?_
     exact iterR_norm ⟨_, hR, (zer (zer (zer (zer zen)))), h306⟩
    ·
     replace hR := ifF hR hc303
     refine W.condF (congrArg Value.bool (decide_eq_false hc303)) ?_
     refine W.exit (thenR_exit (iterR_exit (blockR_here ?_)))
     have h307 := St.pickT (C := [_, _, _]) h300 [1, 2] (by decide)
     simp only [pick, zfc, zfn, zgz, zgs, zca, zna] at h307
     exact ⟨m297, (hx299 _ hR).symm, (zer (zer zen)), h307⟩
   ·
    rintro ev308 wl308 ⟨y_m298, hy308, he308, h308⟩
    obtain ⟨ev308, rfl⟩ := he308.open
    subst hy308
    replace hR := hR0299
    refine k281 _ _ ?_; clear k281
    refine W.seq_k fun _ k309 => W.regionT [(0, true), (1, false)] (by kernel_rfl) ?_
    refine Plan.loadA1 h308 1 rfl rfl rfl FRef02.agg94 ?_
    refine Plan.storeA (f' := fun q => VU .u32 (m298 q)) h308 0 rfl rfl rfl rfl (fun _ _ => rfl) FRef02.sz94 rfl fun w310 h310 => ?_
    simp only [zca, zna, zsz, zss] at h310
    refine Plan.nil (k309 _ _ ?_); clear k309
    refine W.ret (finR_ret ?_)
    have h311 := St.pickT (C := [_, _]) h310 [] (by decide)
    simp only [pick, zfc, zfn, zgz, zgs, zca, zna] at h311
    subst r
    refine RetOk.mk (.agg h310 rfl (.cons 0 rfl .nil) FRef02.agg94 .nil) ?_
    exact ⟨rfl, h311⟩
theorem letheref02_bytesOf_ok {B : Nat} {w0 w : World} {L : List Rg} {state1 : Nat → BitVec 32} {r : (Nat → BitVec 8)} (hR : letheref02_bytesOf state1 r) (HST : St B w0 (L) w) :
  Calls Tryd.prog 76 #[AG [(8, fun q => VU .u32 (state1 q))]] w fun e w' => e = .returned (AG [(32, fun q => VU .u8 (r q))]) ∧ St B w0 (L) w' := by
 refine W.enter 29 Tryd.func76 rfl rfl rfl ?_
 unfold letheref02_bytesOf at hR
 refine W.seq_k fun _ k2 => W.regionT [(0, false), (1, false)] (by kernel_rfl) ?_
 refine Plan.boxA HST rfl rfl PIn.nil fun b3 w3 hb3 h3 => ?_
 simp only [rngs, Nat.zero_add, Nat.reduceAdd, zca, zna] at h3
 refine Plan.alloc h3 rfl FRef02.z22 PIn.nil fun b4 w4 hb4 h4 => ?_
 simp only [rngs, Nat.zero_add, Nat.reduceAdd, zca, zna] at h4
 refine Plan.nil (k2 _ _ ?_); clear k2
 refine W.seq_k fun _ k5 => W.regionT [(0, false)] (by kernel_rfl) ?_
 refine Plan.alloc h4 rfl FRef02.z22 PIn.nil fun b6 w6 hb6 h6 => ?_
 simp only [rngs, Nat.zero_add, Nat.reduceAdd, zca, zna] at h6
 refine Plan.nil (k5 _ _ ?_); clear k5
 refine W.seq_k fun _ k7 => W.seq_k fun _ k8 => ?_
 refine W.regionT [(0, true)] (by kernel_rfl) ?_
 refine Plan.assign_int rfl rfl <| Plan.nil (k8 _ _ ?_); clear k8
 obtain ⟨m114, hI115, hR0115⟩ := hR
 refine W.cutN (fun e w => ∃ y_m114 : Nat → BitVec 8, m114 = y_m114 ∧ EnvHas e [(2, .pointer (some ⟨b4, 0, none⟩)), (3, .pointer (some ⟨b6, 0, none⟩))] ∧ St B w0 (⟨some b6, 0, 32, fun q => VU .u8 (y_m114 q), true⟩ :: ⟨some b4, 0, 32, fun q => VU .u8 ((fun _ => 0#8) q), true⟩ :: L) w) ?_ ?_
 ·
  refine W.block ?_
  refine W.iter hI115 (fun (s115 : (Nat × (Nat → BitVec 8))) e w => EnvHas e [(1, .pointer (some ⟨b3, 0, none⟩)), (2, .pointer (some ⟨b4, 0, none⟩)), (3, .pointer (some ⟨b6, 0, none⟩)), (4, VN s115.1)] ∧ St B w0 (⟨some b6, 0, 32, fun q => VU .u8 (s115.2 q), true⟩ :: ⟨some b4, 0, 32, fun q => VU .u8 ((fun _ => 0#8) q), true⟩ :: ⟨some b3, 0, 8, fun q => VU .u32 (state1 q), true⟩ :: L) w) ⟨(zer (zer (zer (zer zen)))), h6⟩ ?_
  rintro ⟨i_112, m113⟩ o115 hR hx115 ev116 wl116 ⟨he116, h116⟩
  obtain ⟨ev116, rfl⟩ := he116.open
  unfold letheref02_bytesOf_l0 at hR
  refine W.seq_k fun _ k117 => W.seq_k fun _ k118 => ?_
  refine W.regionT [(0, true), (1, true)] (by kernel_rfl) ?_
  refine Plan.move_int rfl rfl <| Plan.cmpP (a := (((i_112 : Nat) : Int) : Int)) (b := (8 : Int)) (p := i_112 < 8) rfl rfl rfl rfl icmp_ltN <| Plan.nil (k118 _ _ ?_); clear k118
  by_cases hc119 : i_112 < 8
  ·
   replace hR := ifT hR hc119
   refine W.condT (congrArg Value.bool (decide_eq_true hc119)) ?_
   refine W.skip ?_
   refine k117 _ _ ?_; clear k117
   refine W.seq_k fun _ k120 => ?_
   refine W.block ?_
   refine W.seq_k fun _ k121 => W.regionT [(0, true), (1, true), (2, true), (3, true)] (by kernel_rfl) ?_
   refine Plan.move_int rfl rfl <| Plan.idxArr1 (j := i_112) FRef02.arr94 rfl rfl rfl (by omega) <| Plan.load1 (j := i_112) h116 2 rfl rfl rfl (by omega) FRef02.sc93 <| Plan.assign_int rfl rfl <| Plan.nil (k121 _ _ ?_); clear k121
   refine W.seq_k fun _ k122 => W.regionT [(0, true)] (by kernel_rfl) ?_
   refine Plan.assign_int rfl rfl <| Plan.nil (k122 _ _ ?_); clear k122
   obtain ⟨m155, hI156, hR0156⟩ := hR
   refine W.cutN (fun e w => ∃ y_m155 : Nat → BitVec 8, m155 = y_m155 ∧ EnvHas e [(1, .pointer (some ⟨b3, 0, none⟩)), (2, .pointer (some ⟨b4, 0, none⟩)), (3, .pointer (some ⟨b6, 0, none⟩)), (4, VN i_112)] ∧ St B w0 (⟨some b6, 0, 32, fun q => VU .u8 (y_m155 q), true⟩ :: ⟨some b4, 0, 32, fun q => VU .u8 ((fun _ => 0#8) q), true⟩ :: ⟨some b3, 0, 8, fun q => VU .u32 (state1 q), true⟩ :: L) w) ?_ ?_
   ·
    refine W.block ?_
    refine W.iter hI156 (fun (s156 : ((BitVec 32) × Int × (Nat → BitVec 8))) e w => EnvHas e [(1, .pointer (some ⟨b3, 0, none⟩)), (2, .pointer (some ⟨b4, 0, none⟩)), (3, .pointer (some ⟨b6, 0, none⟩)), (4, VN i_112), (5, VU .u32 s156.1), (6, .int .i64 s156.2.1)] ∧ St B w0 (⟨some b6, 0, 32, fun q => VU .u8 (s156.2.2 q), true⟩ :: ⟨some b4, 0, 32, fun q => VU .u8 ((fun _ => 0#8) q), true⟩ :: ⟨some b3, 0, 8, fun q => VU .u32 (state1 q), true⟩ :: L) w) ⟨(zer (zer (zer (zer (zer (zer zen)))))), h116⟩ ?_
    rintro ⟨v152, k153, m154⟩ o156 hR hx156 ev157 wl157 ⟨he157, h157⟩
    obtain ⟨ev157, rfl⟩ := he157.open
    unfold letheref02_bytesOf_l1 at hR
    refine W.seq_k fun _ k158 => W.seq_k fun _ k159 => ?_
    refine W.regionT [(0, true), (1, true)] (by kernel_rfl) ?_
    refine Plan.move_int rfl rfl <| Plan.cmpP (a := (k153 : Int)) (b := (0 : Int)) (p := 0 ≤ k153) rfl rfl rfl rfl icmp_ge <| Plan.nil (k159 _ _ ?_); clear k159
    by_cases hc160 : 0 ≤ k153
    ·
     replace hR := ifT hR hc160
     refine W.condT (congrArg Value.bool (decide_eq_true hc160)) ?_
     refine W.skip ?_
     refine k158 _ _ ?_; clear k158
     refine W.seq_k fun _ k161 => ?_
     refine W.block ?_
     refine W.seq_k fun _ k162 => W.regionT [(0, true), (1, true), (2, true), (3, true), (4, true), (5, true), (6, true), (7, true), (8, false)] (by kernel_rfl) ?_
     refine Plan.move_int rfl rfl <| Plan.mulN (a := 4) (b := i_112) rfl rfl rfl (by omega) <| Plan.move_int rfl rfl ?_
     obtain ⟨hc163, hR⟩ := hR
     refine Plan.addI (a := (((4 * i_112) : Nat) : Int)) (b := k153) rfl rfl rfl (by omega) <| Plan.move_int rfl rfl <| Plan.remU .u32 (X := v152) (Y := 256#32) rfl rfl rfl (by decide) <| Plan.convUU .u8 (X := (v152 % (256#32))) FRef02.u5 FRef02.some93 rfl rfl ?_
     obtain ⟨hc164, hR⟩ := hR
     refine Plan.idxArr1 (j := ((((4 * i_112) : Nat) : Int) + k153).toNat) FRef02.arr22 rfl rfl (congrArg (Value.int .i64) (Int.toNat_of_nonneg hc164.1).symm) (by omega) ?_
     refine Plan.storeU (j := ((((4 * i_112) : Nat) : Int) + k153).toNat) (X := ((v152 % (256#32)).setWidth 8)) h157 0 rfl rfl rfl rfl (by omega) FRef02.sz5 rfl fun w165 h165 => ?_
     simp only [zca, zna, zsz, zss] at h165
     refine Plan.nil (k162 _ _ ?_); clear k162
     refine W.regionT [(0, true), (1, true), (2, true)] (by kernel_rfl) ?_
     refine Plan.move_int rfl rfl <| Plan.quoU .u32 (X := v152) (Y := 256#32) rfl rfl rfl (by decide) <| Plan.assign_int rfl rfl <| Plan.nil ?_
     refine blockR_norm ?_
     refine k161 _ _ ?_; clear k161
     refine W.regionT [(0, true), (1, true), (2, true)] (by kernel_rfl) ?_
     refine Plan.move_int rfl rfl ?_
     obtain ⟨hc166, hR⟩ := hR
     refine Plan.subI (a := k153) (b := 1) rfl rfl rfl (by omega) <| Plan.assign_int rfl rfl <| Plan.nil ?_
     exact iterR_norm ⟨_, hR, (zer (zer (zer (zer (zer (zer zen)))))), h165⟩
    ·
     replace hR := ifF hR hc160
     refine W.condF (congrArg Value.bool (decide_eq_false hc160)) ?_
     refine W.exit (thenR_exit (iterR_exit (blockR_here ?_)))
     exact ⟨m154, (hx156 _ hR).symm, (zer (zer (zer (zer zen)))), h157⟩
   ·
    rintro ev167 wl167 ⟨y_m155, hy167, he167, h167⟩
    obtain ⟨ev167, rfl⟩ := he167.open
    subst hy167
    replace hR := hR0156
    refine blockR_norm ?_
    refine k120 _ _ ?_; clear k120
    refine W.regionT [(0, true), (1, true), (2, true)] (by kernel_rfl) ?_
    refine Plan.move_int rfl rfl <| Plan.addN (a := i_112) (b := 1) rfl rfl rfl (by omega) <| Plan.assign_int rfl rfl <| Plan.nil ?_
    exact iterR_norm ⟨_, hR, (zer (zer (zer (zer zen)))), h167⟩
  ·
   replace hR := ifF hR hc119
   refine W.condF (congrArg Value.bool (decide_eq_false hc119)) ?_
   refine W.exit (thenR_exit (iterR_exit (blockR_here ?_)))
   have h168 := St.pickT (C := [_, _, _]) h116 [0, 1] (by decide)
   simp only [pick, zfc, zfn, zgz, zgs, zca, zna] at h168
   exact ⟨m113, (hx115 _ hR).symm, (zer (zer zen)), h168⟩
 ·
  rintro ev169 wl169 ⟨y_m114, hy169, he169, h169⟩
  obtain ⟨ev169, rfl⟩ := he169.open
  subst hy169
  replace hR := hR0115
  refine k7 _ _ ?_; clear k7
  refine W.seq_k fun _ k170 => W.regionT [(0, true), (1, false)] (by kernel_rfl) ?_
  refine Plan.loadA1 h169 0 rfl rfl rfl FRef02.agg22 ?_
  refine Plan.storeA (f' := fun q => VU .u8 (m114 q)) h169 1 rfl rfl rfl rfl (fun _ _ => rfl) FRef02.sz22 rfl fun w171 h171 => ?_
  simp only [zca, zna, zsz, zss] at h171
  refine Plan.nil (k170 _ _ ?_); clear k170
  refine W.ret (finR_ret ?_)
  have h172 := St.pickT (C := [_, _]) h171 [] (by decide)
  simp only [pick, zfc, zfn, zgz, zgs, zca, zna] at h172
  subst r
  refine RetOk.mk (.agg h171 rfl (.cons 1 rfl .nil) FRef02.agg22 .nil) ?_
  exact ⟨rfl, h172⟩
theorem letheref02_Sum_ok {B : Nat} {w0 w : World} {L : List Rg} {iG2 : Nat} (hG2 : L[iG2]? = some ⟨some 2, 0, 8, fun q => VU .u64 (H64 q), false⟩) {iG3 : Nat} (hG3 : L[iG3]? = some ⟨some 3, 0, 64, fun q => VU .u64 (K64 q), false⟩) {m1 : List Byte} {am1 : Option Addr} {nm1 cm1 im1 : Nat} (hm1 : Bx L im1 am1 nm1 cm1 m1) {r : (Nat → BitVec 8)} (hR : letheref02_Sum m1 r) (HST : St B w0 (L) w) :
  Calls Tryd.prog 65 #[.slice am1 nm1 cm1] w fun e w' => e = .returned (AG [(32, fun q => VU .u8 (r q))]) ∧ St B w0 (L) w' := by
 refine W.enter 23 Tryd.func65 rfl rfl rfl ?_
 unfold letheref02_Sum at hR
 have em1 := hm1.hl; subst em1
 refine W.seq_k fun _ k2 => W.regionT [(0, false)] (by kernel_rfl) ?_
 refine Plan.alloc HST rfl FRef02.z22 PIn.nil fun b3 w3 hb3 h3 => ?_
 simp only [rngs, Nat.zero_add, Nat.reduceAdd, zca, zna] at h3
 refine Plan.nil (k2 _ _ ?_); clear k2
 refine W.seq_k fun _ k4 => W.regionT [(0, true), (1, false), (2, true)] (by kernel_rfl) ?_
 refine Plan.move_slice rfl rfl ?_
 obtain ⟨x_6, hr5, hR⟩ := hR
 refine Plan.call (vs := [.slice am1 m1.length cm1]) rfl FRef02.call72 rfl (letheref02_padded_ok (hm1.app [_]) hr5 h3) ?_
 rintro _ w12 ⟨ay0_7, py0_8, ny0_9, cy0_10, Fy0_11, rfl, h12, hf12_0⟩
 obtain rfl := hf12_0.hl
 refine ⟨_, rfl, .inl ⟨PIn.keep PIn.nil h12, ?_⟩⟩
 refine Plan.assign_slice rfl rfl <| Plan.nil (k4 _ _ ?_); clear k4
 refine W.seq_k fun _ k13 => W.regionT [(0, false), (1, false), (2, false)] (by kernel_rfl) ?_
 obtain ⟨x_15, hr14, hR⟩ := hR
 refine Plan.call (vs := []) rfl FRef02.call73 rfl (letheref02_Begin_ok (iG2 := iG2 + 2) hG2 hr14 h12) ?_
 rintro _ w16 ⟨rfl, h16⟩
 refine ⟨_, rfl, .inl ⟨PIn.keep PIn.nil h16, ?_⟩⟩
 refine Plan.alloc h16 rfl FRef02.z94 PIn.nil fun b17 w17 hb17 h17 => ?_
 simp only [rngs, Nat.zero_add, Nat.reduceAdd, zca, zna] at h17
 refine Plan.storeA (f' := fun q => VU .u32 (x_15 q)) h17 0 rfl rfl rfl rfl (fun _ _ => rfl) FRef02.sz94 rfl fun w18 h18 => ?_
 simp only [zca, zna, zsz, zss] at h18
 refine Plan.nil (k13 _ _ ?_); clear k13
 refine W.seq_k fun _ k19 => W.seq_k fun _ k20 => ?_
 refine W.regionT [(0, true)] (by kernel_rfl) ?_
 refine Plan.assign_int rfl rfl <| Plan.nil (k20 _ _ ?_); clear k20
 obtain ⟨m55, hI56, hR056⟩ := hR
 refine W.cutN (fun e w => ∃ y_m55 : Nat → BitVec 32, m55 = y_m55 ∧ EnvHas e [(2, .pointer (some ⟨b3, 0, none⟩)), (4, .pointer (some ⟨b17, 0, none⟩))] ∧ St B w0 (⟨some b17, 0, 8, fun q => VU .u32 (y_m55 q), true⟩ :: ⟨some b3, 0, 32, fun q => VU .u8 ((fun _ => 0#8) q), true⟩ :: L) w) ?_ ?_
 ·
  refine W.block ?_
  have h57 := St.pickT (C := [_, _, _]) h18 [1, 0, 2] (by decide)
  simp only [pick, zfc, zfn, zgz, zgs, zca, zna] at h57
  refine W.iter hI56 (fun (s56 : ((List Byte) × Nat × (Nat → BitVec 32))) e w => ∃ ab52 : Option Addr, ∃ pb52 : Option Nat, ∃ cb52 : Nat, ∃ Fb52 : Nat → Byte, EnvHas e [(2, .pointer (some ⟨b3, 0, none⟩)), (3, .slice ab52 x_6.length cb52), (4, .pointer (some ⟨b17, 0, none⟩)), (5, VN s56.2.1)] ∧ St B w0 (⟨pb52, 0, cb52, fun q => VU .u8 (Fb52 q), true⟩ :: ⟨some b17, 0, 8, fun q => VU .u32 (s56.2.2 q), true⟩ :: ⟨some b3, 0, 32, fun q => VU .u8 ((fun _ => 0#8) q), true⟩ :: L) w ∧ Ow ab52 pb52 x_6.length cb52 Fb52 s56.1) ⟨ay0_7, py0_8, cy0_10, Fy0_11, (zer (zer (zer (zer zen)))), h57, hf12_0⟩ ?_
  rintro ⟨b52, i_53, m54⟩ o56 hR hx56 ev58 wl58 ⟨ab52, pb52, cb52, Fb52, he58, h58, hb52⟩
  obtain ⟨ev58, rfl⟩ := he58.open
  unfold letheref02_Sum_l0 at hR
  refine W.seq_k fun _ k59 => W.seq_k fun _ k60 => ?_
  refine W.regionT [(0, true), (1, true), (2, true), (3, true), (4, true)] (by kernel_rfl) ?_
  refine Plan.move_int rfl rfl <| Plan.move_slice rfl rfl <| Plan.len FRef02.isl24 rfl rfl ?_
  obtain ⟨hc61, hR⟩ := hR
  refine Plan.quoN (a := x_6.length) (b := 64) rfl rfl rfl (by omega) <| Plan.cmpP (a := (((i_53 : Nat) : Int) : Int)) (b := ((((x_6.length / 64) : Nat) : Int) : Int)) (p := i_53 < (x_6.length / 64)) rfl rfl rfl rfl icmp_ltN <| Plan.nil (k60 _ _ ?_); clear k60
  by_cases hc62 : i_53 < (x_6.length / 64)
  ·
   replace hR := ifT hR hc62
   refine W.condT (congrArg Value.bool (decide_eq_true hc62)) ?_
   refine W.skip ?_
   refine k59 _ _ ?_; clear k59
   refine W.seq_k fun _ k63 => ?_
   refine W.block ?_
   refine W.regionD FRef02.mixed [(0, true), (1, true), (2, true), (3, false), (4, false), (5, false)] (by kernel_rfl) ?_
   have h64 := h58.drew
   refine Plan.loadA1 h64 1 rfl rfl rfl FRef02.agg94 <| Plan.move_slice rfl rfl <| Plan.move_int rfl rfl ?_
   obtain ⟨x_66, hr65, hR⟩ := hR
   refine Plan.call (vs := [.slice ab52 x_6.length cb52, VN i_53]) rfl FRef02.call75 rfl (letheref02_At_ok (by exact (hb52.bx 0 rfl)) hr65 h64) ?_
   rintro _ w67 ⟨rfl, h67⟩
   refine ⟨_, rfl, .inl ⟨PIn.keep (PIn.cons 1 rfl PIn.nil) h67, ?_⟩⟩
   obtain ⟨x_69, hr68, hR⟩ := hR
   refine Plan.call (vs := [AG [(8, fun q => VU .u32 (m54 q))], AG [(64, fun q => VU .u8 (x_66 q))]]) rfl FRef02.call74 rfl (letheref02_Block_ok (iG3 := iG3 + 3) hG3 hr68 h67) ?_
   rintro _ w70 ⟨rfl, h70⟩
   refine ⟨_, rfl, .inr ⟨rfl, ?_⟩⟩
   refine Plan.storeA (f' := fun q => VU .u32 (x_69 q)) h70 1 rfl rfl rfl rfl (fun _ _ => rfl) FRef02.sz94 rfl fun w71 h71 => ?_
   simp only [zca, zna, zsz, zss] at h71
   refine Plan.nil ?_
   refine blockR_norm ?_
   refine k63 _ _ ?_; clear k63
   refine W.regionT [(0, true), (1, true), (2, true)] (by kernel_rfl) ?_
   refine Plan.move_int rfl rfl ?_
   obtain ⟨hc72, hR⟩ := hR
   refine Plan.addN (a := i_53) (b := 1) rfl rfl rfl (by omega) <| Plan.assign_int rfl rfl <| Plan.nil ?_
   exact iterR_norm ⟨_, hR, ab52, pb52, cb52, Fb52, (zer (zer (zer (zer zen)))), h71, hb52⟩
  ·
   replace hR := ifF hR hc62
   refine W.condF (congrArg Value.bool (decide_eq_false hc62)) ?_
   refine W.exit (thenR_exit (iterR_exit (blockR_here ?_)))
   have h73 := St.pickT (C := [_, _, _]) h58 [1, 2] (by decide)
   simp only [pick, zfc, zfn, zgz, zgs, zca, zna] at h73
   exact ⟨m54, (hx56 _ hR).symm, (zer (zer zen)), h73⟩
 ·
  rintro ev74 wl74 ⟨y_m55, hy74, he74, h74⟩
  obtain ⟨ev74, rfl⟩ := he74.open
  subst hy74
  replace hR := hR056
  refine k19 _ _ ?_; clear k19
  refine W.seq_k fun _ k75 => W.regionT [(0, true), (1, false), (2, false)] (by kernel_rfl) ?_
  refine Plan.loadA1 h74 0 rfl rfl rfl FRef02.agg94 ?_
  obtain ⟨x_77, hr76, hR⟩ := hR
  refine Plan.call (vs := [AG [(8, fun q => VU .u32 (m55 q))]]) rfl FRef02.call76 rfl (letheref02_bytesOf_ok  hr76 h74) ?_
  rintro _ w78 ⟨rfl, h78⟩
  refine ⟨_, rfl, .inr ⟨rfl, ?_⟩⟩
  refine Plan.storeA (f' := fun q => VU .u8 (x_77 q)) h78 1 rfl rfl rfl rfl (fun _ _ => rfl) FRef02.sz22 rfl fun w79 h79 => ?_
  simp only [zca, zna, zsz, zss] at h79
  refine Plan.nil (k75 _ _ ?_); clear k75
  refine W.ret (finR_ret ?_)
  have h80 := St.pickT (C := [_, _]) h79 [] (by decide)
  simp only [pick, zfc, zfn, zgz, zgs, zca, zna] at h80
  subst r
  refine RetOk.mk (.agg h79 rfl (.cons 1 rfl .nil) FRef02.agg22 .nil) ?_
  exact ⟨rfl, h80⟩
end Go.Proofs.YthjkmhdgenmnoaaDoor
