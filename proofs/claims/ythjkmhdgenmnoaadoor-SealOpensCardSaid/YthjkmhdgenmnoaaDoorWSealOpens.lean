/-
  WALKS of the package's functions, printed by this session's own program (auto.py).
-/
import Derived.Test.YthjkmhdgenmnoaaDoorProg
import Derived.Test.YthjkmhdgenmnoaaDoorLx6
import Derived.Test.YthjkmhdgenmnoaaDoorRSealOpens
import Derived.Test.YthjkmhdgenmnoaaDoorWAes
import Derived.Test.YthjkmhdgenmnoaaDoorWLaw05
import Derived.Test.YthjkmhdgenmnoaaDoorWSeal
namespace Go.Proofs.YthjkmhdgenmnoaaDoor
set_option linter.unusedSimpArgs false
set_option linter.unusedVariables false
set_option linter.unusedSectionVars false
open Go Go.LW
theorem FSealOpens.isl24 : ∃ el, Tryd.prog.underlying 24 = some (.slice el) := ⟨5, by kernel_rfl⟩
theorem FSealOpens.sl24 : slB Tryd.prog 24 1 = true := by kernel_rfl
theorem FSealOpens.call9 : callB Tryd.prog 9 = true := by kernel_rfl
theorem FSealOpens.agg23 : aggT Tryd.prog 23 32 = true := by kernel_rfl
theorem FSealOpens.z31 : zeroIs Tryd.prog 31 [(16, fun _ => VU .u8 0#8)] := zeroIs_agg (by kernel_rfl)
theorem FSealOpens.el24 : elD Tryd.prog 24 = some (1, 1, some (VU .u8 0#8)) := by kernel_rfl
theorem FSealOpens.agg31 : aggT Tryd.prog 31 16 = true := by kernel_rfl
theorem FSealOpens.sz31 : szT Tryd.prog 31 16 = true := by kernel_rfl
theorem FSealOpens.call19 : callB Tryd.prog 19 = true := by kernel_rfl
theorem FSealOpens.call20 : callB Tryd.prog 20 = true := by kernel_rfl
theorem FSealOpens.call10 : callB Tryd.prog 10 = true := by kernel_rfl
theorem FSealOpens.call12 : callB Tryd.prog 12 = true := by kernel_rfl
theorem FSealOpens.call14 : callB Tryd.prog 14 = true := by kernel_rfl
theorem FSealOpens.call18 : callB Tryd.prog 18 = true := by kernel_rfl
theorem FSealOpens.call13 : callB Tryd.prog 13 = true := by kernel_rfl
theorem FSealOpens.ptr49 : ptrB Tryd.prog 49 = true := by kernel_rfl
theorem FSealOpens.call15 : callB Tryd.prog 15 = true := by kernel_rfl

set_option maxRecDepth 8000 in
set_option maxHeartbeats 1000000 in
theorem lethelaw05_SealOpens_ok {B : Nat} {w0 w : World} {L : List Rg} {iG0 : Nat} (hG0 : L[iG0]? = some ⟨some 0, 0, 8, fun q => VU .u32 (H256 q), false⟩) {iG1 : Nat} (hG1 : L[iG1]? = some ⟨some 1, 0, 64, fun q => VU .u32 (K256 q), false⟩) {key1 : Nat → BitVec 8} {data2 : List Byte} {adata2 : Option Addr} {ndata2 cdata2 idata2 : Nat} (hdata2 : Bx L idata2 adata2 ndata2 cdata2 data2) {text3 : List Byte} {atext3 : Option Addr} {ntext3 ctext3 itext3 : Nat} (htext3 : Bx L itext3 atext3 ntext3 ctext3 text3) {r : Bool} (hR : lethelaw05_SealOpens key1 data2 text3 r) (HST : St B w0 (L) w) :
    Calls Tryd.prog 7 #[AG [(32, fun q => VU .u8 (key1 q))], .slice adata2 ndata2 cdata2, .slice atext3 ntext3 ctext3] w fun e w' => e = .returned (.bool r) ∧ St B w0 (L) w' := by
  refine W.enter 97 Tryd.func7 rfl rfl rfl ?_
  unfold lethelaw05_SealOpens at hR
  have edata2 := hdata2.hl; subst edata2
  have etext3 := htext3.hl; subst etext3
  refine W.seq_k fun K4 hK4 => ?_
  refine W.regionT [(0, false), (1, true)] (by kernel_rfl) ?_
  refine Plan.boxA HST rfl rfl PIn.nil fun b5 w5 hb5 h5 => ?_
  simp only [rngs, Nat.zero_add, Nat.reduceAdd, List.cons_append, List.nil_append] at h5
  refine Plan.assign_bool rfl rfl ?_
  refine Plan.nil ?_
  refine hK4 _ _ ?_; clear hK4
  refine W.seq_k fun K6 hK6 => ?_
  refine W.regionT [(0, true), (1, false), (2, true), (3, false), (4, true), (5, true)] (by kernel_rfl) ?_
  refine Plan.move_slice rfl rfl ?_
  obtain ⟨x_8, hr7, hR⟩ := hR
  refine Plan.call (vs := [.slice adata2 data2.length cdata2, VN 200]) rfl FSealOpens.call9 rfl (lethelaw05_short_ok (hdata2.app [_]) hr7 h5) ?_
  rintro _ w12 ⟨ay0_9, ny0_10, cy0_11, rfl, h12, hf12_0⟩
  obtain rfl := hf12_0.hl
  refine ⟨_, rfl, .inl ⟨PIn.keep PIn.nil h12, ?_⟩⟩
  refine Plan.move_slice rfl rfl ?_
  obtain ⟨x_14, hr13, hR⟩ := hR
  refine Plan.call (vs := [.slice atext3 text3.length ctext3, VN 512]) rfl FSealOpens.call9 rfl (lethelaw05_short_ok (htext3.app [_]) hr13 h12) ?_
  rintro _ w18 ⟨ay0_15, ny0_16, cy0_17, rfl, h18, hf18_0⟩
  obtain rfl := hf18_0.hl
  refine ⟨_, rfl, .inl ⟨PIn.keep PIn.nil h18, ?_⟩⟩
  refine Plan.assign_slice rfl rfl ?_
  refine Plan.assign_slice rfl rfl ?_
  refine Plan.nil ?_
  refine hK6 _ _ ?_; clear hK6
  refine W.seq_k fun K19 hK19 => ?_
  refine W.regionT [(0, true), (1, true), (2, true), (3, false), (4, true), (5, true), (6, true), (7, true), (8, true)] (by kernel_rfl) ?_
  refine Plan.loadA1 h18 0 rfl rfl rfl FSealOpens.agg23 ?_
  refine Plan.move_slice rfl rfl ?_
  refine Plan.move_slice rfl rfl ?_
  obtain ⟨x_21, x_22, hr20, hR⟩ := hR
  refine Plan.call (vs := [AG [(32, fun q => VU .u8 (key1 q))], .slice ay0_9 x_8.length cy0_11, .slice ay0_15 x_14.length cy0_17]) rfl FSealOpens.call10 rfl (seal_Seal_ok (iG0 := iG0 + 1) hG0 (iG1 := iG1 + 1) hG1 ((Bx.unapp (D := [_]) hf12_0).app [_]) ((Bx.unapp (D := [_]) hf18_0).app [_]) hr20 h18) ?_
  rintro _ w28 ⟨ay0_23, py0_24, ny0_25, cy0_26, Fy0_27, rfl, h28, hf28_0⟩
  obtain rfl := hf28_0.hl
  refine ⟨_, rfl, .inr ⟨rfl, ?_⟩⟩
  refine Plan.move_tuple rfl rfl ?_
  refine Plan.extract_slice rfl rfl rfl ?_
  refine Plan.extract_int rfl rfl rfl ?_
  refine Plan.assign_slice rfl rfl ?_
  refine Plan.assign_int rfl rfl ?_
  refine Plan.nil ?_
  refine hK19 _ _ ?_; clear hK19
  refine W.seq_k fun K29 hK29 => ?_
  refine W.regionT [(0, true), (1, true), (2, true), (3, false), (4, true), (5, true), (6, true), (7, true), (8, true)] (by kernel_rfl) ?_
  refine Plan.loadA1 h28 1 rfl rfl rfl FSealOpens.agg23 ?_
  refine Plan.move_slice rfl rfl ?_
  refine Plan.move_slice rfl rfl ?_
  obtain ⟨x_31, x_32, hr30, hR⟩ := hR
  refine Plan.call (vs := [AG [(32, fun q => VU .u8 (key1 q))], .slice ay0_9 x_8.length cy0_11, .slice ay0_23 x_21.length cy0_26]) rfl FSealOpens.call12 rfl (seal_Open_ok (iG0 := iG0 + 2) hG0 (iG1 := iG1 + 2) hG1 ((Bx.unapp (D := [_]) hf12_0).app [_, _]) (by exact (hf28_0.bx 0 rfl)) hr30 h28) ?_
  rintro _ w38 ⟨ay0_33, py0_34, ny0_35, cy0_36, Fy0_37, rfl, h38, hf38_0⟩
  obtain rfl := hf38_0.hl
  refine ⟨_, rfl, .inr ⟨rfl, ?_⟩⟩
  refine Plan.move_tuple rfl rfl ?_
  refine Plan.extract_slice rfl rfl rfl ?_
  refine Plan.extract_int rfl rfl rfl ?_
  refine Plan.assign_slice rfl rfl ?_
  refine Plan.assign_int rfl rfl ?_
  refine Plan.nil ?_
  refine hK29 _ _ ?_; clear hK29
  refine W.seq_k fun K39 hK39 => ?_
  refine W.seq_k fun K74 hK74 => ?_
  obtain ⟨s86, t87, hX88, hR088⟩ := hR
  refine W.cutN (fun e w => ∃ y_s86 : List Byte, ∃ y_t87 : Bool, (s86 = y_s86 ∧ t87 = y_t87) ∧ ∃ as86 : Option Addr, ∃ ps86 : Option Nat, ∃ cs86 : Nat, ∃ Fs86 : Nat → Byte, EnvHas e [(1, .slice ay0_9 x_8.length cy0_11), (2, .slice ay0_15 x_14.length cy0_17), (3, .pointer (some ⟨b5, 0, none⟩)), (7, .slice as86 x_21.length cs86), (63, .bool y_t87)] ∧ St B w0 (⟨ps86, 0, cs86, fun q => VU .u8 (Fs86 q), true⟩ :: ⟨some b5, 0, 32, fun q => VU .u8 (key1 q), true⟩ :: L) w ∧ Ow as86 ps86 x_21.length cs86 Fs86 y_s86) ?_ ?_
  ·
    replace hR := hX88
    refine W.regionT [(0, true), (1, true), (2, true), (3, true), (4, true), (5, true), (6, true), (7, true), (8, true), (9, false), (10, true), (11, true), (12, true), (13, true), (14, true), (15, true), (16, true), (17, true), (18, true), (19, true), (20, true), (21, true), (22, true), (23, false), (24, true), (25, true), (26, true), (27, true)] (by kernel_rfl) ?_
    refine Plan.move_int rfl rfl ?_
    by_cases hc89 : x_22 ≠ 0
    ·
      replace hR := ifT hR hc89
      refine Plan.cmpV (a := (((x_22 : Nat) : Int) : Int)) (b := (0 : Int)) (p := x_22 ≠ 0) (v := true) rfl rfl rfl rfl icmp_neN (decide_eq_true hc89) ?_
      refine Plan.move_bool rfl rfl ?_
      refine Plan.passed rfl ?_
      refine Plan.passed rfl ?_
      refine Plan.pickTb rfl rfl rfl ?_
      refine Plan.move_bool rfl rfl ?_
      refine Plan.passed rfl ?_
      refine Plan.passed rfl ?_
      refine Plan.passed rfl ?_
      refine Plan.passed rfl ?_
      refine Plan.pickTb rfl rfl rfl ?_
      refine Plan.move_bool rfl rfl ?_
      refine Plan.passed rfl ?_
      refine Plan.passed rfl ?_
      refine Plan.passed rfl ?_
      refine Plan.passed rfl ?_
      refine Plan.passed rfl ?_
      refine Plan.passed rfl ?_
      refine Plan.pickTb rfl rfl rfl ?_
      refine Plan.move_bool rfl rfl ?_
      refine Plan.passed rfl ?_
      refine Plan.passed rfl ?_
      refine Plan.passed rfl ?_
      refine Plan.passed rfl ?_
      refine Plan.passed rfl ?_
      refine Plan.passed rfl ?_
      refine Plan.pickTb rfl rfl rfl ?_
      refine Plan.nil ?_
      have h90 := St.pickT (C := [_, _, _]) h38 [1, 2] (by decide)
      simp only [pick, List.filterMap_cons, List.filterMap_nil, List.getElem?_cons_zero, List.getElem?_cons_succ, List.cons_append, List.nil_append] at h90
      exact ⟨x_21, true, hR, ay0_23, py0_24, cy0_26, Fy0_27, (EnvHas.cons rfl (EnvHas.cons rfl (EnvHas.cons rfl (EnvHas.cons rfl (EnvHas.cons rfl EnvHas.nil))))), h90, hf28_0⟩
    ·
      replace hR := ifF hR hc89
      refine Plan.cmpV (a := (((x_22 : Nat) : Int) : Int)) (b := (0 : Int)) (p := x_22 ≠ 0) (v := false) rfl rfl rfl rfl icmp_neN (decide_eq_false hc89) ?_
      refine Plan.move_bool rfl rfl ?_
      refine Plan.move_int rfl rfl ?_
      by_cases hc91 : x_32 ≠ 0
      ·
        replace hR := ifT hR hc91
        refine Plan.cmpV (a := (((x_32 : Nat) : Int) : Int)) (b := (0 : Int)) (p := x_32 ≠ 0) (v := true) rfl rfl rfl rfl icmp_neN (decide_eq_true hc91) ?_
        refine Plan.pickFb rfl rfl rfl ?_
        refine Plan.move_bool rfl rfl ?_
        refine Plan.passed rfl ?_
        refine Plan.passed rfl ?_
        refine Plan.passed rfl ?_
        refine Plan.passed rfl ?_
        refine Plan.pickTb rfl rfl rfl ?_
        refine Plan.move_bool rfl rfl ?_
        refine Plan.passed rfl ?_
        refine Plan.passed rfl ?_
        refine Plan.passed rfl ?_
        refine Plan.passed rfl ?_
        refine Plan.passed rfl ?_
        refine Plan.passed rfl ?_
        refine Plan.pickTb rfl rfl rfl ?_
        refine Plan.move_bool rfl rfl ?_
        refine Plan.passed rfl ?_
        refine Plan.passed rfl ?_
        refine Plan.passed rfl ?_
        refine Plan.passed rfl ?_
        refine Plan.passed rfl ?_
        refine Plan.passed rfl ?_
        refine Plan.pickTb rfl rfl rfl ?_
        refine Plan.nil ?_
        have h92 := St.pickT (C := [_, _, _]) h38 [1, 2] (by decide)
        simp only [pick, List.filterMap_cons, List.filterMap_nil, List.getElem?_cons_zero, List.getElem?_cons_succ, List.cons_append, List.nil_append] at h92
        exact ⟨x_21, true, hR, ay0_23, py0_24, cy0_26, Fy0_27, (EnvHas.cons rfl (EnvHas.cons rfl (EnvHas.cons rfl (EnvHas.cons rfl (EnvHas.cons rfl EnvHas.nil))))), h92, hf28_0⟩
      ·
        replace hR := ifF hR hc91
        refine Plan.cmpV (a := (((x_32 : Nat) : Int) : Int)) (b := (0 : Int)) (p := x_32 ≠ 0) (v := false) rfl rfl rfl rfl icmp_neN (decide_eq_false hc91) ?_
        refine Plan.pickFb rfl rfl rfl ?_
        refine Plan.move_bool rfl rfl ?_
        refine Plan.move_slice rfl rfl ?_
        refine Plan.move_slice rfl rfl ?_
        obtain ⟨x_94, hr93, hR⟩ := hR
        refine Plan.call (vs := [.slice ay0_33 x_31.length cy0_36, .slice ay0_15 x_14.length cy0_17]) rfl FSealOpens.call14 rfl (lethelaw05_Eq_ok (by exact (hf38_0.bx 0 rfl)) ((Bx.unapp (D := [_]) hf18_0).app [_, _, _]) hr93 h38) ?_
        rintro _ w95 ⟨rfl, h95⟩
        refine ⟨_, rfl, .inl ⟨PIn.keep PIn.nil h95, ?_⟩⟩
        by_cases hc96 : x_94 = true
        ·
          replace hR := ifT hR hc96
          obtain rfl : x_94 = true := hc96
          refine Plan.notT rfl rfl ?_
          refine Plan.pickFb rfl rfl rfl ?_
          refine Plan.move_bool rfl rfl ?_
          refine Plan.move_slice rfl rfl ?_
          refine Plan.len FSealOpens.isl24 rfl rfl ?_
          refine Plan.move_slice rfl rfl ?_
          refine Plan.len FSealOpens.isl24 rfl rfl ?_
          obtain ⟨hc97, hR⟩ := hR
          refine Plan.addN (a := x_14.length) (b := 32) rfl rfl rfl (by omega) ?_
          by_cases hc98 : x_21.length ≠ (x_14.length + 32)
          ·
            replace hR := ifT hR hc98
            refine Plan.cmpV (a := (((x_21.length : Nat) : Int) : Int)) (b := ((((x_14.length + 32) : Nat) : Int) : Int)) (p := x_21.length ≠ (x_14.length + 32)) (v := true) rfl rfl rfl rfl icmp_neN (decide_eq_true hc98) ?_
            refine Plan.pickFb rfl rfl rfl ?_
            refine Plan.move_bool rfl rfl ?_
            refine Plan.passed rfl ?_
            refine Plan.passed rfl ?_
            refine Plan.passed rfl ?_
            refine Plan.passed rfl ?_
            refine Plan.passed rfl ?_
            refine Plan.passed rfl ?_
            refine Plan.pickTb rfl rfl rfl ?_
            refine Plan.nil ?_
            have h99 := St.pickT (C := [_, _, _]) h95 [1, 2] (by decide)
            simp only [pick, List.filterMap_cons, List.filterMap_nil, List.getElem?_cons_zero, List.getElem?_cons_succ, List.cons_append, List.nil_append] at h99
            exact ⟨x_21, true, hR, ay0_23, py0_24, cy0_26, Fy0_27, (EnvHas.cons rfl (EnvHas.cons rfl (EnvHas.cons rfl (EnvHas.cons rfl (EnvHas.cons rfl EnvHas.nil))))), h99, hf28_0⟩
          ·
            replace hR := ifF hR hc98
            refine Plan.cmpV (a := (((x_21.length : Nat) : Int) : Int)) (b := ((((x_14.length + 32) : Nat) : Int) : Int)) (p := x_21.length ≠ (x_14.length + 32)) (v := false) rfl rfl rfl rfl icmp_neN (decide_eq_false hc98) ?_
            refine Plan.pickFb rfl rfl rfl ?_
            refine Plan.move_bool rfl rfl ?_
            refine Plan.move_slice rfl rfl ?_
            refine Plan.len FSealOpens.isl24 rfl rfl ?_
            obtain ⟨x_101, hr100, hR⟩ := hR
            refine Plan.call (vs := [VN x_14.length]) rfl FSealOpens.call18 rfl (seal_Length_ok  hr100 h95) ?_
            rintro _ w102 ⟨rfl, h102⟩
            refine ⟨_, rfl, .inl ⟨PIn.keep PIn.nil h102, ?_⟩⟩
            refine Plan.move_slice rfl rfl ?_
            refine Plan.len FSealOpens.isl24 rfl rfl ?_
            refine Plan.cmpP (a := (x_101 : Int)) (b := (((x_21.length : Nat) : Int) : Int)) (p := x_101 ≠ ((x_21.length : Nat) : Int)) rfl rfl rfl rfl icmp_ne ?_
            refine Plan.pickFb rfl rfl rfl ?_
            refine Plan.nil ?_
            have h103 := St.pickT (C := [_, _, _]) h102 [1, 2] (by decide)
            simp only [pick, List.filterMap_cons, List.filterMap_nil, List.getElem?_cons_zero, List.getElem?_cons_succ, List.cons_append, List.nil_append] at h103
            exact ⟨x_21, (decide (x_101 ≠ ((x_21.length : Nat) : Int))), hR, ay0_23, py0_24, cy0_26, Fy0_27, (EnvHas.cons rfl (EnvHas.cons rfl (EnvHas.cons rfl (EnvHas.cons rfl (EnvHas.cons rfl EnvHas.nil))))), h103, hf28_0⟩
        ·
          replace hR := ifF hR hc96
          obtain rfl : x_94 = false := Bool.eq_false_iff.2 hc96
          refine Plan.notF rfl rfl ?_
          refine Plan.pickFb rfl rfl rfl ?_
          refine Plan.move_bool rfl rfl ?_
          refine Plan.passed rfl ?_
          refine Plan.passed rfl ?_
          refine Plan.passed rfl ?_
          refine Plan.passed rfl ?_
          refine Plan.passed rfl ?_
          refine Plan.passed rfl ?_
          refine Plan.pickTb rfl rfl rfl ?_
          refine Plan.move_bool rfl rfl ?_
          refine Plan.passed rfl ?_
          refine Plan.passed rfl ?_
          refine Plan.passed rfl ?_
          refine Plan.passed rfl ?_
          refine Plan.passed rfl ?_
          refine Plan.passed rfl ?_
          refine Plan.pickTb rfl rfl rfl ?_
          refine Plan.nil ?_
          have h104 := St.pickT (C := [_, _, _]) h95 [1, 2] (by decide)
          simp only [pick, List.filterMap_cons, List.filterMap_nil, List.getElem?_cons_zero, List.getElem?_cons_succ, List.cons_append, List.nil_append] at h104
          exact ⟨x_21, true, hR, ay0_23, py0_24, cy0_26, Fy0_27, (EnvHas.cons rfl (EnvHas.cons rfl (EnvHas.cons rfl (EnvHas.cons rfl (EnvHas.cons rfl EnvHas.nil))))), h104, hf28_0⟩
  ·
    rintro ev105 wl105 ⟨y_s86, y_t87, ⟨hy105_0, hy105_1⟩, as86, ps86, cs86, Fs86, he105, h105, hs86⟩
    subst hy105_0
    subst hy105_1
    obtain ⟨ev105, rfl⟩ := he105.open
    replace hR := hR088
    refine hK74 _ _ ?_; clear hK74
    by_cases hc106 : t87 = true
    ·
      replace hR := ifT hR hc106
      refine W.condT (congrArg Value.bool hc106) ?_
      refine W.seq_k fun K107 hK107 => ?_
      refine W.regionT [(0, true)] (by kernel_rfl) ?_
      refine Plan.assign_bool rfl rfl ?_
      refine Plan.nil ?_
      refine hK107 _ _ ?_; clear hK107
      refine W.ret (thenR_ret (finR_ret ?_))
      have h108 := St.pickT (C := [_, _]) h105 [] (by decide)
      simp only [pick, List.filterMap_cons, List.filterMap_nil, List.getElem?_cons_zero, List.getElem?_cons_succ, List.cons_append, List.nil_append] at h108
      subst r
      refine RetOk.mk (.tmp_bool rfl .nil) ?_
      exact ⟨rfl, h108⟩
    ·
      replace hR := ifF hR hc106
      refine W.condF (congrArg Value.bool (Bool.eq_false_iff.2 hc106)) ?_
      refine W.skip ?_
      refine hK39 _ _ ?_; clear hK39
      refine W.seq_k fun K109 hK109 => ?_
      refine W.regionT [(0, true), (1, false), (2, true), (3, true), (4, true), (5, true), (6, true), (7, false), (8, true), (9, true), (10, false), (11, true)] (by kernel_rfl) ?_
      refine Plan.loadA1 h105 1 rfl rfl rfl FSealOpens.agg23 ?_
      rcases hR with ⟨x_111, x_112, x_113, x_114, hr110, hR⟩ | ⟨x_115, x_116, x_117, x_118, hr110, hR⟩
      ·
        refine Plan.call (vs := [AG [(32, fun q => VU .u8 (key1 q))]]) rfl FSealOpens.call13 rfl (lethelaw05_three_ok (iG0 := iG0 + 2) hG0 (iG1 := iG1 + 2) hG1 hr110 h105) ?_
        rintro _ w129 ⟨ay0_119, py0_120, ny0_121, cy0_122, Fy0_123, ay1_124, py1_125, ny1_126, cy1_127, Fy1_128, rfl, h129, hf129_0, hf129_1⟩
        obtain rfl := hf129_0.hl
        obtain rfl := hf129_1.hl
        refine ⟨_, rfl, .inr ⟨rfl, ?_⟩⟩
        refine Plan.move_tuple rfl rfl ?_
        refine Plan.extract_slice rfl rfl rfl ?_
        refine Plan.extract_slice rfl rfl rfl ?_
        refine Plan.extract_agg rfl rfl rfl ?_
        refine Plan.extract_bool rfl rfl rfl ?_
        refine Plan.alloc h129 rfl FSealOpens.z31 PIn.nil fun b130 w130 hb130 h130 => ?_
        simp only [rngs, Nat.zero_add, Nat.reduceAdd, List.cons_append, List.nil_append] at h130
        refine Plan.assign_slice rfl rfl ?_
        refine Plan.assign_slice rfl rfl ?_
        refine Plan.storeA (f' := fun q => VU .u8 (x_113 q)) h130 0 rfl rfl rfl rfl (fun _ _ => rfl) FSealOpens.sz31 rfl fun w131 h131 => ?_
        simp only [List.cons_append, List.nil_append, List.set_cons_zero, List.set_cons_succ] at h131
        refine Plan.assign_bool rfl rfl ?_
        refine Plan.nil ?_
        refine hK109 _ _ ?_; clear hK109
        refine W.seq_k fun K132 hK132 => ?_
        refine W.seq_k fun K133 hK133 => ?_
        refine W.regionT [(0, true), (1, true)] (by kernel_rfl) ?_
        refine Plan.move_bool rfl rfl ?_
        refine Plan.not rfl rfl ?_
        refine Plan.nil ?_
        refine hK133 _ _ ?_; clear hK133
        by_cases hc134 : x_114 = true
        ·
          replace hR := ifT hR hc134
          refine W.condF (congrArg Value.bool (congrArg Bool.not hc134)) ?_
          refine W.skip ?_
          refine hK132 _ _ ?_; clear hK132
          refine W.seq_k fun K135 hK135 => ?_
          refine W.regionT [(0, true), (1, false), (2, true), (3, true), (4, true), (5, true), (6, true)] (by kernel_rfl) ?_
          refine Plan.move_slice rfl rfl ?_
          rcases hR with ⟨x_137, hr136, hR⟩ | ⟨x_138, x_139, x_140, x_141, x_142, hr136, hR⟩
          ·
            refine Plan.call (vs := [.slice ay0_119 x_111.length cy0_122]) rfl FSealOpens.call19 rfl (aes_New_ok (by exact (hf129_0.bx 1 rfl)) hr136 h131) ?_
            rintro _ w143 ⟨rfl, h143⟩
            refine ⟨_, rfl, .inl ⟨PIn.keep PIn.nil h143, ?_⟩⟩
            refine Plan.move_tuple rfl rfl ?_
            refine Plan.extract_ptr rfl rfl rfl ?_
            refine Plan.extract_int rfl rfl rfl ?_
            refine Plan.assign_ptr rfl rfl ?_
            refine Plan.assign_int rfl rfl ?_
            refine Plan.nil ?_
            refine hK135 _ _ ?_; clear hK135
            refine W.seq_k fun K144 hK144 => ?_
            refine W.seq_k fun K149 hK149 => ?_
            refine W.regionT [(0, true), (1, true), (2, true), (3, true), (4, true), (5, true)] (by kernel_rfl) ?_
            refine Plan.move_int rfl rfl ?_
            by_cases hc150 : x_137 ≠ 0
            ·
              replace hR := ifT hR hc150
              refine Plan.cmpV (a := (((x_137 : Nat) : Int) : Int)) (b := (0 : Int)) (p := x_137 ≠ 0) (v := true) rfl rfl rfl rfl icmp_neN (decide_eq_true hc150) ?_
              refine Plan.move_bool rfl rfl ?_
              refine Plan.passed rfl ?_
              refine Plan.passed rfl ?_
              refine Plan.pickTb rfl rfl rfl ?_
              refine Plan.nil ?_
              refine hK149 _ _ ?_; clear hK149
              refine W.condT rfl ?_
              refine W.seq_k fun K151 hK151 => ?_
              refine W.regionT [(0, true)] (by kernel_rfl) ?_
              refine Plan.assign_bool rfl rfl ?_
              refine Plan.nil ?_
              refine hK151 _ _ ?_; clear hK151
              refine W.ret (thenR_ret (finR_ret ?_))
              have h152 := St.pickT (C := [_, _, _, _, _]) h143 [] (by decide)
              simp only [pick, List.filterMap_cons, List.filterMap_nil, List.getElem?_cons_zero, List.getElem?_cons_succ, List.cons_append, List.nil_append] at h152
              subst r
              refine RetOk.mk (.tmp_bool rfl .nil) ?_
              exact ⟨rfl, h152⟩
            ·
              replace hR := ifF hR hc150
              refine Plan.cmpV (a := (((x_137 : Nat) : Int) : Int)) (b := (0 : Int)) (p := x_137 ≠ 0) (v := false) rfl rfl rfl rfl icmp_neN (decide_eq_false hc150) ?_
              refine Plan.move_bool rfl rfl ?_
              refine Plan.move_ptr rfl rfl ?_
              refine Plan.eqNil (b := true) FSealOpens.ptr49 rfl rfl rfl rfl ?_
              refine Plan.pickFb rfl rfl rfl ?_
              refine Plan.nil ?_
              refine hK149 _ _ ?_; clear hK149
              refine W.condT rfl ?_
              refine W.seq_k fun K153 hK153 => ?_
              refine W.regionT [(0, true)] (by kernel_rfl) ?_
              refine Plan.assign_bool rfl rfl ?_
              refine Plan.nil ?_
              refine hK153 _ _ ?_; clear hK153
              refine W.ret (thenR_ret (finR_ret ?_))
              have h154 := St.pickT (C := [_, _, _, _, _]) h143 [] (by decide)
              simp only [pick, List.filterMap_cons, List.filterMap_nil, List.getElem?_cons_zero, List.getElem?_cons_succ, List.cons_append, List.nil_append] at h154
              subst r
              refine RetOk.mk (.tmp_bool rfl .nil) ?_
              exact ⟨rfl, h154⟩
          ·
            refine Plan.call (vs := [.slice ay0_119 x_111.length cy0_122]) rfl FSealOpens.call19 rfl (aes_New_ok (by exact (hf129_0.bx 1 rfl)) hr136 h131) ?_
            rintro _ w156 ⟨b0_155, rfl, h156⟩
            refine ⟨_, rfl, .inl ⟨PIn.keep PIn.nil h156, ?_⟩⟩
            refine Plan.move_tuple rfl rfl ?_
            refine Plan.extract_ptr rfl rfl rfl ?_
            refine Plan.extract_int rfl rfl rfl ?_
            refine Plan.assign_ptr rfl rfl ?_
            refine Plan.assign_int rfl rfl ?_
            refine Plan.nil ?_
            refine hK135 _ _ ?_; clear hK135
            refine W.seq_k fun K157 hK157 => ?_
            refine W.seq_k fun K161 hK161 => ?_
            refine W.regionT [(0, true), (1, true), (2, true), (3, true), (4, true), (5, true)] (by kernel_rfl) ?_
            refine Plan.move_int rfl rfl ?_
            by_cases hc162 : x_142 ≠ 0
            ·
              replace hR := ifT hR hc162
              refine Plan.cmpV (a := (((x_142 : Nat) : Int) : Int)) (b := (0 : Int)) (p := x_142 ≠ 0) (v := true) rfl rfl rfl rfl icmp_neN (decide_eq_true hc162) ?_
              refine Plan.move_bool rfl rfl ?_
              refine Plan.passed rfl ?_
              refine Plan.passed rfl ?_
              refine Plan.pickTb rfl rfl rfl ?_
              refine Plan.nil ?_
              refine hK161 _ _ ?_; clear hK161
              refine W.condT rfl ?_
              refine W.seq_k fun K163 hK163 => ?_
              refine W.regionT [(0, true)] (by kernel_rfl) ?_
              refine Plan.assign_bool rfl rfl ?_
              refine Plan.nil ?_
              refine hK163 _ _ ?_; clear hK163
              refine W.ret (thenR_ret (finR_ret ?_))
              have h164 := St.pickT (C := [_, _, _, _, _, _, _, _, _]) h156 [] (by decide)
              simp only [pick, List.filterMap_cons, List.filterMap_nil, List.getElem?_cons_zero, List.getElem?_cons_succ, List.cons_append, List.nil_append] at h164
              subst r
              refine RetOk.mk (.tmp_bool rfl .nil) ?_
              exact ⟨rfl, h164⟩
            ·
              replace hR := ifF hR hc162
              refine Plan.cmpV (a := (((x_142 : Nat) : Int) : Int)) (b := (0 : Int)) (p := x_142 ≠ 0) (v := false) rfl rfl rfl rfl icmp_neN (decide_eq_false hc162) ?_
              refine Plan.move_bool rfl rfl ?_
              refine Plan.move_ptr rfl rfl ?_
              refine Plan.eqNil (b := false) FSealOpens.ptr49 rfl rfl rfl rfl ?_
              refine Plan.pickFb rfl rfl rfl ?_
              refine Plan.nil ?_
              refine hK161 _ _ ?_; clear hK161
              refine W.condF rfl ?_
              refine W.skip ?_
              refine hK157 _ _ ?_; clear hK157
              refine W.seq_k fun K165 hK165 => ?_
              refine W.regionT [(0, true), (1, true), (2, true), (3, false), (4, true)] (by kernel_rfl) ?_
              refine Plan.move_ptr rfl rfl ?_
              refine Plan.loadA1 h156 4 rfl rfl rfl FSealOpens.agg31 ?_
              refine Plan.move_slice rfl rfl ?_
              obtain ⟨x_167, hr166, hR⟩ := hR
              refine Plan.call (vs := [.pointer (some ⟨b0_155, 0, none⟩), AG [(16, fun q => VU .u8 (x_113 q))], .slice ay0_15 x_14.length cy0_17]) rfl FSealOpens.call20 rfl (aes_Cipher_Stream_ok ((Bx.unapp (D := [_]) hf18_0).app [_, _, _, _, _]) hr166 h156) ?_
              rintro _ w173 ⟨ay0_168, py0_169, ny0_170, cy0_171, Fy0_172, rfl, h173, hf173_0⟩
              obtain rfl := hf173_0.hl
              refine ⟨_, rfl, .inr ⟨rfl, ?_⟩⟩
              refine Plan.assign_slice rfl rfl ?_
              refine Plan.nil ?_
              refine hK165 _ _ ?_; clear hK165
              refine W.seq_k fun K174 hK174 => ?_
              refine W.regionT [(0, true), (1, true), (2, false), (3, true), (4, true), (5, true), (6, false), (7, false), (8, false), (9, true)] (by kernel_rfl) ?_
              refine Plan.move_slice rfl rfl ?_
              refine Plan.move_slice rfl rfl ?_
              have h175 := h173.nilR
              obtain ⟨hc177, hR⟩ := hR
              refine Plan.appendO (X := ([] : List Byte)) (Y := x_167) h175 0 Ow.nil FSealOpens.el24 FSealOpens.sl24 rfl rfl rfl rfl (hf173_0.bx 1 rfl) hc177 (fun _ => EffO.keep PIn.nil) fun a176 pb176 cap176 F176 w176 ho176 h176 => ?_
              simp only [List.cons_append, List.nil_append, List.set_cons_zero, List.set_cons_succ] at h176
              refine Plan.move_slice rfl rfl ?_
              refine Plan.move_slice rfl rfl ?_
              refine Plan.move_slice rfl rfl ?_
              obtain ⟨x_179, hr178, hR⟩ := hR
              refine Plan.call (vs := [.slice ay1_124 x_112.length cy1_127, .slice ay0_9 x_8.length cy0_11, .slice ay0_168 x_167.length cy0_171]) rfl FSealOpens.call15 rfl (lethelaw05_tag_ok (iG0 := iG0 + 11) hG0 (iG1 := iG1 + 11) hG1 (by exact (hf129_1.bx 8 rfl)) ((Bx.unapp (D := [_]) hf12_0).app [_, _, _, _, _, _, _, _, _, _, _]) (by exact (hf173_0.bx 1 rfl)) hr178 h176) ?_
              rintro _ w185 ⟨ay0_180, py0_181, ny0_182, cy0_183, Fy0_184, rfl, h185, hf185_0⟩
              obtain rfl := hf185_0.hl
              refine ⟨_, rfl, .inl ⟨PIn.keep PIn.nil h185, ?_⟩⟩
              obtain ⟨hc187, hR⟩ := hR
              refine Plan.appendO (X := (([] : List Byte) ++ x_167)) (Y := x_179) h185 1 ho176 FSealOpens.el24 FSealOpens.sl24 rfl rfl rfl rfl (hf185_0.bx 0 rfl) hc187 (fun _ => EffO.keep PIn.nil) fun a186 pb186 cap186 F186 w186 ho186 h186 => ?_
              simp only [List.cons_append, List.nil_append, List.set_cons_zero, List.set_cons_succ] at h186
              obtain ⟨x_189, hr188, hR⟩ := hR
              refine Plan.call (vs := [.slice as86 x_21.length cs86, .slice a186 (((([] : List Byte) ++ x_167) ++ x_179).length) cap186]) rfl FSealOpens.call14 rfl (lethelaw05_Eq_ok (by exact (hs86.bx 10 rfl)) (by exact (ho186.bx 1 rfl)) hr188 h186) ?_
              rintro _ w190 ⟨rfl, h190⟩
              refine ⟨_, rfl, .inl ⟨PIn.keep PIn.nil h190, ?_⟩⟩
              refine Plan.assign_bool rfl rfl ?_
              refine Plan.nil ?_
              refine hK174 _ _ ?_; clear hK174
              refine W.ret (finR_ret ?_)
              have h191 := St.pickT (C := [_, _, _, _, _, _, _, _, _, _, _, _]) h190 [] (by decide)
              simp only [pick, List.filterMap_cons, List.filterMap_nil, List.getElem?_cons_zero, List.getElem?_cons_succ, List.cons_append, List.nil_append] at h191
              subst r
              refine RetOk.mk (.tmp_bool rfl .nil) ?_
              exact ⟨rfl, h191⟩
        ·
          replace hR := ifF hR hc134
          refine W.condT (congrArg Value.bool (congrArg Bool.not (Bool.eq_false_iff.2 hc134))) ?_
          refine W.seq_k fun K192 hK192 => ?_
          refine W.regionT [(0, true)] (by kernel_rfl) ?_
          refine Plan.assign_bool rfl rfl ?_
          refine Plan.nil ?_
          refine hK192 _ _ ?_; clear hK192
          refine W.ret (thenR_ret (finR_ret ?_))
          have h193 := St.pickT (C := [_, _, _, _, _]) h131 [] (by decide)
          simp only [pick, List.filterMap_cons, List.filterMap_nil, List.getElem?_cons_zero, List.getElem?_cons_succ, List.cons_append, List.nil_append] at h193
          subst r
          refine RetOk.mk (.tmp_bool rfl .nil) ?_
          exact ⟨rfl, h193⟩
      ·
        refine Plan.call (vs := [AG [(32, fun q => VU .u8 (key1 q))]]) rfl FSealOpens.call13 rfl (lethelaw05_three_ok (iG0 := iG0 + 2) hG0 (iG1 := iG1 + 2) hG1 hr110 h105) ?_
        rintro _ w201 ⟨ry0_194, ay0_195, ny0_196, cy0_197, ay1_198, ny1_199, cy1_200, rfl, h201, hf201_0, hf201_1⟩
        obtain rfl := hf201_0.hl
        obtain rfl := hf201_1.hl
        refine ⟨_, rfl, .inr ⟨rfl, ?_⟩⟩
        refine Plan.move_tuple rfl rfl ?_
        refine Plan.extract_slice rfl rfl rfl ?_
        refine Plan.extract_slice rfl rfl rfl ?_
        refine Plan.extract_agg rfl rfl rfl ?_
        refine Plan.extract_bool rfl rfl rfl ?_
        refine Plan.alloc h201 rfl FSealOpens.z31 PIn.nil fun b202 w202 hb202 h202 => ?_
        simp only [rngs, Nat.zero_add, Nat.reduceAdd, List.cons_append, List.nil_append] at h202
        refine Plan.assign_slice rfl rfl ?_
        refine Plan.assign_slice rfl rfl ?_
        refine Plan.storeA (f' := fun q => VU .u8 (x_117 q)) h202 0 rfl rfl rfl rfl (fun _ _ => rfl) FSealOpens.sz31 rfl fun w203 h203 => ?_
        simp only [List.cons_append, List.nil_append, List.set_cons_zero, List.set_cons_succ] at h203
        refine Plan.assign_bool rfl rfl ?_
        refine Plan.nil ?_
        refine hK109 _ _ ?_; clear hK109
        refine W.seq_k fun K204 hK204 => ?_
        refine W.seq_k fun K205 hK205 => ?_
        refine W.regionT [(0, true), (1, true)] (by kernel_rfl) ?_
        refine Plan.move_bool rfl rfl ?_
        refine Plan.not rfl rfl ?_
        refine Plan.nil ?_
        refine hK205 _ _ ?_; clear hK205
        by_cases hc206 : x_118 = true
        ·
          replace hR := ifT hR hc206
          refine W.condF (congrArg Value.bool (congrArg Bool.not hc206)) ?_
          refine W.skip ?_
          refine hK204 _ _ ?_; clear hK204
          refine W.seq_k fun K207 hK207 => ?_
          refine W.regionT [(0, true), (1, false), (2, true), (3, true), (4, true), (5, true), (6, true)] (by kernel_rfl) ?_
          refine Plan.move_slice rfl rfl ?_
          rcases hR with ⟨x_209, hr208, hR⟩ | ⟨x_210, x_211, x_212, x_213, x_214, hr208, hR⟩
          ·
            refine Plan.call (vs := [.slice ay0_195 x_115.length cy0_197]) rfl FSealOpens.call19 rfl (aes_New_ok (by exact (Bx.move (j := 1) hf201_0 rfl rfl)) hr208 h203) ?_
            rintro _ w215 ⟨rfl, h215⟩
            refine ⟨_, rfl, .inl ⟨PIn.keep PIn.nil h215, ?_⟩⟩
            refine Plan.move_tuple rfl rfl ?_
            refine Plan.extract_ptr rfl rfl rfl ?_
            refine Plan.extract_int rfl rfl rfl ?_
            refine Plan.assign_ptr rfl rfl ?_
            refine Plan.assign_int rfl rfl ?_
            refine Plan.nil ?_
            refine hK207 _ _ ?_; clear hK207
            refine W.seq_k fun K216 hK216 => ?_
            refine W.seq_k fun K221 hK221 => ?_
            refine W.regionT [(0, true), (1, true), (2, true), (3, true), (4, true), (5, true)] (by kernel_rfl) ?_
            refine Plan.move_int rfl rfl ?_
            by_cases hc222 : x_209 ≠ 0
            ·
              replace hR := ifT hR hc222
              refine Plan.cmpV (a := (((x_209 : Nat) : Int) : Int)) (b := (0 : Int)) (p := x_209 ≠ 0) (v := true) rfl rfl rfl rfl icmp_neN (decide_eq_true hc222) ?_
              refine Plan.move_bool rfl rfl ?_
              refine Plan.passed rfl ?_
              refine Plan.passed rfl ?_
              refine Plan.pickTb rfl rfl rfl ?_
              refine Plan.nil ?_
              refine hK221 _ _ ?_; clear hK221
              refine W.condT rfl ?_
              refine W.seq_k fun K223 hK223 => ?_
              refine W.regionT [(0, true)] (by kernel_rfl) ?_
              refine Plan.assign_bool rfl rfl ?_
              refine Plan.nil ?_
              refine hK223 _ _ ?_; clear hK223
              refine W.ret (thenR_ret (finR_ret ?_))
              have h224 := St.pickT (C := [_, _, _, _]) h215 [] (by decide)
              simp only [pick, List.filterMap_cons, List.filterMap_nil, List.getElem?_cons_zero, List.getElem?_cons_succ, List.cons_append, List.nil_append] at h224
              subst r
              refine RetOk.mk (.tmp_bool rfl .nil) ?_
              exact ⟨rfl, h224⟩
            ·
              replace hR := ifF hR hc222
              refine Plan.cmpV (a := (((x_209 : Nat) : Int) : Int)) (b := (0 : Int)) (p := x_209 ≠ 0) (v := false) rfl rfl rfl rfl icmp_neN (decide_eq_false hc222) ?_
              refine Plan.move_bool rfl rfl ?_
              refine Plan.move_ptr rfl rfl ?_
              refine Plan.eqNil (b := true) FSealOpens.ptr49 rfl rfl rfl rfl ?_
              refine Plan.pickFb rfl rfl rfl ?_
              refine Plan.nil ?_
              refine hK221 _ _ ?_; clear hK221
              refine W.condT rfl ?_
              refine W.seq_k fun K225 hK225 => ?_
              refine W.regionT [(0, true)] (by kernel_rfl) ?_
              refine Plan.assign_bool rfl rfl ?_
              refine Plan.nil ?_
              refine hK225 _ _ ?_; clear hK225
              refine W.ret (thenR_ret (finR_ret ?_))
              have h226 := St.pickT (C := [_, _, _, _]) h215 [] (by decide)
              simp only [pick, List.filterMap_cons, List.filterMap_nil, List.getElem?_cons_zero, List.getElem?_cons_succ, List.cons_append, List.nil_append] at h226
              subst r
              refine RetOk.mk (.tmp_bool rfl .nil) ?_
              exact ⟨rfl, h226⟩
          ·
            refine Plan.call (vs := [.slice ay0_195 x_115.length cy0_197]) rfl FSealOpens.call19 rfl (aes_New_ok (by exact (Bx.move (j := 1) hf201_0 rfl rfl)) hr208 h203) ?_
            rintro _ w228 ⟨b0_227, rfl, h228⟩
            refine ⟨_, rfl, .inl ⟨PIn.keep PIn.nil h228, ?_⟩⟩
            refine Plan.move_tuple rfl rfl ?_
            refine Plan.extract_ptr rfl rfl rfl ?_
            refine Plan.extract_int rfl rfl rfl ?_
            refine Plan.assign_ptr rfl rfl ?_
            refine Plan.assign_int rfl rfl ?_
            refine Plan.nil ?_
            refine hK207 _ _ ?_; clear hK207
            refine W.seq_k fun K229 hK229 => ?_
            refine W.seq_k fun K233 hK233 => ?_
            refine W.regionT [(0, true), (1, true), (2, true), (3, true), (4, true), (5, true)] (by kernel_rfl) ?_
            refine Plan.move_int rfl rfl ?_
            by_cases hc234 : x_214 ≠ 0
            ·
              replace hR := ifT hR hc234
              refine Plan.cmpV (a := (((x_214 : Nat) : Int) : Int)) (b := (0 : Int)) (p := x_214 ≠ 0) (v := true) rfl rfl rfl rfl icmp_neN (decide_eq_true hc234) ?_
              refine Plan.move_bool rfl rfl ?_
              refine Plan.passed rfl ?_
              refine Plan.passed rfl ?_
              refine Plan.pickTb rfl rfl rfl ?_
              refine Plan.nil ?_
              refine hK233 _ _ ?_; clear hK233
              refine W.condT rfl ?_
              refine W.seq_k fun K235 hK235 => ?_
              refine W.regionT [(0, true)] (by kernel_rfl) ?_
              refine Plan.assign_bool rfl rfl ?_
              refine Plan.nil ?_
              refine hK235 _ _ ?_; clear hK235
              refine W.ret (thenR_ret (finR_ret ?_))
              have h236 := St.pickT (C := [_, _, _, _, _, _, _, _]) h228 [] (by decide)
              simp only [pick, List.filterMap_cons, List.filterMap_nil, List.getElem?_cons_zero, List.getElem?_cons_succ, List.cons_append, List.nil_append] at h236
              subst r
              refine RetOk.mk (.tmp_bool rfl .nil) ?_
              exact ⟨rfl, h236⟩
            ·
              replace hR := ifF hR hc234
              refine Plan.cmpV (a := (((x_214 : Nat) : Int) : Int)) (b := (0 : Int)) (p := x_214 ≠ 0) (v := false) rfl rfl rfl rfl icmp_neN (decide_eq_false hc234) ?_
              refine Plan.move_bool rfl rfl ?_
              refine Plan.move_ptr rfl rfl ?_
              refine Plan.eqNil (b := false) FSealOpens.ptr49 rfl rfl rfl rfl ?_
              refine Plan.pickFb rfl rfl rfl ?_
              refine Plan.nil ?_
              refine hK233 _ _ ?_; clear hK233
              refine W.condF rfl ?_
              refine W.skip ?_
              refine hK229 _ _ ?_; clear hK229
              refine W.seq_k fun K237 hK237 => ?_
              refine W.regionT [(0, true), (1, true), (2, true), (3, false), (4, true)] (by kernel_rfl) ?_
              refine Plan.move_ptr rfl rfl ?_
              refine Plan.loadA1 h228 4 rfl rfl rfl FSealOpens.agg31 ?_
              refine Plan.move_slice rfl rfl ?_
              obtain ⟨x_239, hr238, hR⟩ := hR
              refine Plan.call (vs := [.pointer (some ⟨b0_227, 0, none⟩), AG [(16, fun q => VU .u8 (x_117 q))], .slice ay0_15 x_14.length cy0_17]) rfl FSealOpens.call20 rfl (aes_Cipher_Stream_ok ((Bx.unapp (D := [_]) hf18_0).app [_, _, _, _]) hr238 h228) ?_
              rintro _ w245 ⟨ay0_240, py0_241, ny0_242, cy0_243, Fy0_244, rfl, h245, hf245_0⟩
              obtain rfl := hf245_0.hl
              refine ⟨_, rfl, .inr ⟨rfl, ?_⟩⟩
              refine Plan.assign_slice rfl rfl ?_
              refine Plan.nil ?_
              refine hK237 _ _ ?_; clear hK237
              refine W.seq_k fun K246 hK246 => ?_
              refine W.regionT [(0, true), (1, true), (2, false), (3, true), (4, true), (5, true), (6, false), (7, false), (8, false), (9, true)] (by kernel_rfl) ?_
              refine Plan.move_slice rfl rfl ?_
              refine Plan.move_slice rfl rfl ?_
              have h247 := h245.nilR
              obtain ⟨hc249, hR⟩ := hR
              refine Plan.appendO (X := ([] : List Byte)) (Y := x_239) h247 0 Ow.nil FSealOpens.el24 FSealOpens.sl24 rfl rfl rfl rfl (hf245_0.bx 1 rfl) hc249 (fun _ => EffO.keep PIn.nil) fun a248 pb248 cap248 F248 w248 ho248 h248 => ?_
              simp only [List.cons_append, List.nil_append, List.set_cons_zero, List.set_cons_succ] at h248
              refine Plan.move_slice rfl rfl ?_
              refine Plan.move_slice rfl rfl ?_
              refine Plan.move_slice rfl rfl ?_
              obtain ⟨x_251, hr250, hR⟩ := hR
              refine Plan.call (vs := [.slice ay1_198 x_116.length cy1_200, .slice ay0_9 x_8.length cy0_11, .slice ay0_240 x_239.length cy0_243]) rfl FSealOpens.call15 rfl (lethelaw05_tag_ok (iG0 := iG0 + 10) hG0 (iG1 := iG1 + 10) hG1 (by exact (Bx.move (j := 7) hf201_1 rfl rfl)) ((Bx.unapp (D := [_]) hf12_0).app [_, _, _, _, _, _, _, _, _, _]) (by exact (hf245_0.bx 1 rfl)) hr250 h248) ?_
              rintro _ w257 ⟨ay0_252, py0_253, ny0_254, cy0_255, Fy0_256, rfl, h257, hf257_0⟩
              obtain rfl := hf257_0.hl
              refine ⟨_, rfl, .inl ⟨PIn.keep PIn.nil h257, ?_⟩⟩
              obtain ⟨hc259, hR⟩ := hR
              refine Plan.appendO (X := (([] : List Byte) ++ x_239)) (Y := x_251) h257 1 ho248 FSealOpens.el24 FSealOpens.sl24 rfl rfl rfl rfl (hf257_0.bx 0 rfl) hc259 (fun _ => EffO.keep PIn.nil) fun a258 pb258 cap258 F258 w258 ho258 h258 => ?_
              simp only [List.cons_append, List.nil_append, List.set_cons_zero, List.set_cons_succ] at h258
              obtain ⟨x_261, hr260, hR⟩ := hR
              refine Plan.call (vs := [.slice as86 x_21.length cs86, .slice a258 (((([] : List Byte) ++ x_239) ++ x_251).length) cap258]) rfl FSealOpens.call14 rfl (lethelaw05_Eq_ok (by exact (hs86.bx 9 rfl)) (by exact (ho258.bx 1 rfl)) hr260 h258) ?_
              rintro _ w262 ⟨rfl, h262⟩
              refine ⟨_, rfl, .inl ⟨PIn.keep PIn.nil h262, ?_⟩⟩
              refine Plan.assign_bool rfl rfl ?_
              refine Plan.nil ?_
              refine hK246 _ _ ?_; clear hK246
              refine W.ret (finR_ret ?_)
              have h263 := St.pickT (C := [_, _, _, _, _, _, _, _, _, _, _]) h262 [] (by decide)
              simp only [pick, List.filterMap_cons, List.filterMap_nil, List.getElem?_cons_zero, List.getElem?_cons_succ, List.cons_append, List.nil_append] at h263
              subst r
              refine RetOk.mk (.tmp_bool rfl .nil) ?_
              exact ⟨rfl, h263⟩
        ·
          replace hR := ifF hR hc206
          refine W.condT (congrArg Value.bool (congrArg Bool.not (Bool.eq_false_iff.2 hc206))) ?_
          refine W.seq_k fun K264 hK264 => ?_
          refine W.regionT [(0, true)] (by kernel_rfl) ?_
          refine Plan.assign_bool rfl rfl ?_
          refine Plan.nil ?_
          refine hK264 _ _ ?_; clear hK264
          refine W.ret (thenR_ret (finR_ret ?_))
          have h265 := St.pickT (C := [_, _, _, _]) h203 [] (by decide)
          simp only [pick, List.filterMap_cons, List.filterMap_nil, List.getElem?_cons_zero, List.getElem?_cons_succ, List.cons_append, List.nil_append] at h265
          subst r
          refine RetOk.mk (.tmp_bool rfl .nil) ?_
          exact ⟨rfl, h265⟩

end Go.Proofs.YthjkmhdgenmnoaaDoor
