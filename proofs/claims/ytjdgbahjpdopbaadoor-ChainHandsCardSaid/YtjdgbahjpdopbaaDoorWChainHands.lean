/-
  WALKS of the package's functions, printed by this session's own program (auto.py).
-/
import Derived.Test.YtjdgbahjpdopbaaDoorProg
import Derived.Test.YtjdgbahjpdopbaaDoorLx9
import Derived.Test.YtjdgbahjpdopbaaDoorRChainHands
import Derived.Test.YtjdgbahjpdopbaaDoorEls
import Derived.Test.YtjdgbahjpdopbaaDoorWChain
import Derived.Test.YtjdgbahjpdopbaaDoorWLaw13
namespace Go.Proofs.YtjdgbahjpdopbaaDoor
set_option linter.unusedSimpArgs false
set_option linter.unusedVariables false
set_option linter.unusedSectionVars false
open Go Go.LW
theorem FChainHands.u5 : Tryd.prog.underlying 5 = some (.int .u8) := by kernel_rfl
theorem FChainHands.some3 : (Tryd.prog.underlying 3).isSome = true := by kernel_rfl
theorem FChainHands.agg61 : aggT Tryd.prog 61 32 = true := by kernel_rfl
theorem FChainHands.zv61 : (Tryd.prog.info? 61).bind (·.zero) = some (AG [(32, fun _ => VU .u8 0#8)]) := by kernel_rfl
theorem FChainHands.slu62 : Tryd.prog.underlying 62 = some (.slice 61) := by kernel_rfl
theorem FChainHands.sz61 : szT Tryd.prog 61 32 = true := by kernel_rfl
theorem FChainHands.el62 : elD Tryd.prog 62 = some (32, 32, some (AG [(32, fun _ => VU .u8 0#8)])) := by kernel_rfl
theorem FChainHands.isl62 : ∃ el, Tryd.prog.underlying 62 = some (.slice el) := ⟨61, by kernel_rfl⟩
theorem FChainHands.sl62 : slB Tryd.prog 62 32 = true := by kernel_rfl
theorem FChainHands.arr61 : arrB Tryd.prog 61 32 1 = true := by kernel_rfl
theorem FChainHands.z61 : zeroIs Tryd.prog 61 [(32, fun _ => VU .u8 0#8)] := zeroIs_agg (by kernel_rfl)
theorem FChainHands.call38 : callB Tryd.prog 38 = true := by kernel_rfl
theorem FChainHands.arrI61 : arrIB Tryd.prog 61 32 .u8 = true := by kernel_rfl
theorem FChainHands.call39 : callB Tryd.prog 39 = true := by kernel_rfl

set_option maxRecDepth 8000 in
set_option maxHeartbeats 1000000 in
theorem lethelaw13_ChainHands_ok {B : Nat} {w0 w : World} {L : List Rg} {iG0 : Nat} (hG0 : L[iG0]? = some ⟨some 0, 0, 64, fun q => VU .u32 (K256 q), false⟩) {iG1 : Nat} (hG1 : L[iG1]? = some ⟨some 1, 0, 8, fun q => VU .u32 (H256 q), false⟩) {k1 : Nat → BitVec 8} {n_2 : Int} {mark3 : Int} {r : Bool} (hR : lethelaw13_ChainHands k1 n_2 mark3 r) (HST : St B w0 (L) w) :
    Calls Tryd.prog 10 #[AG [(32, fun q => VU .u8 (k1 q))], .int .i64 n_2, .int .i64 mark3] w fun e w' => e = .returned (.bool r) ∧ St B w0 (L) w' := by
  refine W.enter 127 Tryd.func10 rfl rfl rfl ?_
  unfold lethelaw13_ChainHands at hR
  refine W.seq_k fun K4 hK4 => ?_
  refine W.regionT [(0, false), (1, true)] (by kernel_rfl) ?_
  refine Plan.boxA HST rfl rfl PIn.nil fun b5 w5 hb5 h5 => ?_
  simp only [rngs, Nat.zero_add, Nat.reduceAdd, List.cons_append, List.nil_append] at h5
  refine Plan.assign_bool rfl rfl ?_
  refine Plan.nil ?_
  refine hK4 _ _ ?_; clear hK4
  refine W.seq_k fun K6 hK6 => ?_
  refine W.regionT [(0, true), (1, true), (2, true), (3, true), (4, true), (5, true), (6, true), (7, true)] (by kernel_rfl) ?_
  refine Plan.move_int rfl rfl ?_
  refine Plan.move_int rfl rfl ?_
  refine Plan.addW (a := n_2) (b := 1) rfl rfl rfl ?_
  refine Plan.negW (a := (w64 (n_2 + 1))) rfl rfl ?_
  refine Plan.maxI (a := n_2) (b := (w64 (-(w64 (n_2 + 1))))) rfl rfl rfl ?_
  have hb7 := tmod_bd (max n_2 (w64 (-(w64 (n_2 + 1))))) (c := 64) (by decide)
  refine Plan.remI (a := (max n_2 (w64 (-(w64 (n_2 + 1)))))) (b := 64) rfl rfl rfl (by omega) ?_
  refine Plan.addI (a := 1) (b := ((max n_2 (w64 (-(w64 (n_2 + 1))))).tmod 64)) rfl rfl rfl (by omega) ?_
  refine Plan.assign_int rfl rfl ?_
  refine Plan.nil ?_
  refine hK6 _ _ ?_; clear hK6
  refine W.seq_k fun K8 hK8 => ?_
  refine W.regionT [(0, true), (1, true), (2, false), (3, true), (4, true), (5, true), (6, true), (7, false), (8, false), (9, true), (10, true)] (by kernel_rfl) ?_
  refine Plan.loadA1 h5 0 rfl rfl rfl FChainHands.agg61 ?_
  refine Plan.move_int rfl rfl ?_
  obtain ⟨x_10, x_11, x_12, hr9, hR⟩ := hR
  refine Plan.call (vs := [AG [(32, fun q => VU .u8 (k1 q))], .int .i64 (1 + ((max n_2 (w64 (-(w64 (n_2 + 1))))).tmod 64))]) rfl FChainHands.call38 rfl (chain_Ahead_ok (iG0 := iG0 + 1) hG0 (iG1 := iG1 + 1) hG1 hr9 h5) ?_
  rintro _ w18 ⟨ay1_13, py1_14, ny1_15, cy1_16, Fy1_17, rfl, h18, hf18_0⟩
  try dsimp only at hf18_0
  obtain rfl := hf18_0.hl
  refine ⟨_, rfl, .inr ⟨rfl, ?_⟩⟩
  refine Plan.move_tuple rfl rfl ?_
  refine Plan.extract_agg rfl rfl rfl ?_
  refine Plan.extract_slice rfl rfl rfl ?_
  refine Plan.extract_int rfl rfl rfl ?_
  refine Plan.alloc h18 rfl FChainHands.z61 PIn.nil fun b19 w19 hb19 h19 => ?_
  simp only [rngs, Nat.zero_add, Nat.reduceAdd, List.cons_append, List.nil_append] at h19
  refine Plan.storeA (f' := fun q => VU .u8 (x_10 q)) h19 0 rfl rfl rfl rfl (fun _ _ => rfl) FChainHands.sz61 rfl fun w20 h20 => ?_
  simp only [List.cons_append, List.nil_append, List.set_cons_zero, List.set_cons_succ] at h20
  refine Plan.assign_slice rfl rfl ?_
  refine Plan.assign_int rfl rfl ?_
  refine Plan.nil ?_
  refine hK8 _ _ ?_; clear hK8
  refine W.seq_k fun K21 hK21 => ?_
  refine W.regionT [(0, true), (1, true), (2, false), (3, true), (4, true), (5, true), (6, true), (7, false), (8, false), (9, true), (10, true)] (by kernel_rfl) ?_
  refine Plan.loadA1 h20 2 rfl rfl rfl FChainHands.agg61 ?_
  refine Plan.move_int rfl rfl ?_
  obtain ⟨x_23, x_24, x_25, hr22, hR⟩ := hR
  refine Plan.call (vs := [AG [(32, fun q => VU .u8 (k1 q))], .int .i64 (1 + ((max n_2 (w64 (-(w64 (n_2 + 1))))).tmod 64))]) rfl FChainHands.call38 rfl (chain_Ahead_ok (iG0 := iG0 + 3) hG0 (iG1 := iG1 + 3) hG1 hr22 h20) ?_
  rintro _ w31 ⟨ay1_26, py1_27, ny1_28, cy1_29, Fy1_30, rfl, h31, hf31_0⟩
  try dsimp only at hf31_0
  obtain rfl := hf31_0.hl
  refine ⟨_, rfl, .inr ⟨rfl, ?_⟩⟩
  refine Plan.move_tuple rfl rfl ?_
  refine Plan.extract_agg rfl rfl rfl ?_
  refine Plan.extract_slice rfl rfl rfl ?_
  refine Plan.extract_int rfl rfl rfl ?_
  refine Plan.alloc h31 rfl FChainHands.z61 PIn.nil fun b32 w32 hb32 h32 => ?_
  simp only [rngs, Nat.zero_add, Nat.reduceAdd, List.cons_append, List.nil_append] at h32
  refine Plan.storeA (f' := fun q => VU .u8 (x_23 q)) h32 0 rfl rfl rfl rfl (fun _ _ => rfl) FChainHands.sz61 rfl fun w33 h33 => ?_
  simp only [List.cons_append, List.nil_append, List.set_cons_zero, List.set_cons_succ] at h33
  refine Plan.assign_slice rfl rfl ?_
  refine Plan.assign_int rfl rfl ?_
  refine Plan.nil ?_
  refine hK21 _ _ ?_; clear hK21
  refine W.seq_k fun K34 hK34 => ?_
  refine W.seq_k fun K42 hK42 => ?_
  refine W.regionT [(0, true), (1, true), (2, true), (3, true), (4, true), (5, true), (6, true), (7, true), (8, true), (9, true), (10, true), (11, true)] (by kernel_rfl) ?_
  refine Plan.move_int rfl rfl ?_
  by_cases hc43 : x_12 ≠ 0
  ·
    replace hR := ifT hR hc43
    refine Plan.cmpV (a := (((x_12 : Nat) : Int) : Int)) (b := (0 : Int)) (p := x_12 ≠ 0) (v := true) rfl rfl rfl rfl icmp_neN (decide_eq_true hc43) ?_
    refine Plan.move_bool rfl rfl ?_
    refine Plan.passed rfl ?_
    refine Plan.passed rfl ?_
    refine Plan.pickTb rfl rfl rfl ?_
    refine Plan.move_bool rfl rfl ?_
    refine Plan.passed rfl ?_
    refine Plan.passed rfl ?_
    refine Plan.passed rfl ?_
    refine Plan.passed rfl ?_
    refine Plan.pickTb rfl rfl rfl ?_
    refine Plan.nil ?_
    refine hK42 _ _ ?_; clear hK42
    refine W.condT rfl ?_
    refine W.seq_k fun K44 hK44 => ?_
    refine W.regionT [(0, true)] (by kernel_rfl) ?_
    refine Plan.assign_bool rfl rfl ?_
    refine Plan.nil ?_
    refine hK44 _ _ ?_; clear hK44
    refine W.ret (thenR_ret (finR_ret ?_))
    have h45 := St.pickT (C := [_, _, _, _, _]) h33 [] (by decide)
    simp only [pick, List.filterMap_cons, List.filterMap_nil, List.getElem?_cons_zero, List.getElem?_cons_succ, List.cons_append, List.nil_append] at h45
    subst r
    refine RetOk.mk (.tmp_bool rfl .nil) ?_
    exact ⟨rfl, h45⟩
  ·
    replace hR := ifF hR hc43
    refine Plan.cmpV (a := (((x_12 : Nat) : Int) : Int)) (b := (0 : Int)) (p := x_12 ≠ 0) (v := false) rfl rfl rfl rfl icmp_neN (decide_eq_false hc43) ?_
    refine Plan.move_bool rfl rfl ?_
    refine Plan.move_int rfl rfl ?_
    by_cases hc46 : x_25 ≠ 0
    ·
      replace hR := ifT hR hc46
      refine Plan.cmpV (a := (((x_25 : Nat) : Int) : Int)) (b := (0 : Int)) (p := x_25 ≠ 0) (v := true) rfl rfl rfl rfl icmp_neN (decide_eq_true hc46) ?_
      refine Plan.pickFb rfl rfl rfl ?_
      refine Plan.move_bool rfl rfl ?_
      refine Plan.passed rfl ?_
      refine Plan.passed rfl ?_
      refine Plan.passed rfl ?_
      refine Plan.passed rfl ?_
      refine Plan.pickTb rfl rfl rfl ?_
      refine Plan.nil ?_
      refine hK42 _ _ ?_; clear hK42
      refine W.condT rfl ?_
      refine W.seq_k fun K47 hK47 => ?_
      refine W.regionT [(0, true)] (by kernel_rfl) ?_
      refine Plan.assign_bool rfl rfl ?_
      refine Plan.nil ?_
      refine hK47 _ _ ?_; clear hK47
      refine W.ret (thenR_ret (finR_ret ?_))
      have h48 := St.pickT (C := [_, _, _, _, _]) h33 [] (by decide)
      simp only [pick, List.filterMap_cons, List.filterMap_nil, List.getElem?_cons_zero, List.getElem?_cons_succ, List.cons_append, List.nil_append] at h48
      subst r
      refine RetOk.mk (.tmp_bool rfl .nil) ?_
      exact ⟨rfl, h48⟩
    ·
      replace hR := ifF hR hc46
      refine Plan.cmpV (a := (((x_25 : Nat) : Int) : Int)) (b := (0 : Int)) (p := x_25 ≠ 0) (v := false) rfl rfl rfl rfl icmp_neN (decide_eq_false hc46) ?_
      refine Plan.pickFb rfl rfl rfl ?_
      refine Plan.move_bool rfl rfl ?_
      refine Plan.move_slice rfl rfl ?_
      refine Plan.len FChainHands.isl62 rfl rfl ?_
      refine Plan.move_int rfl rfl ?_
      refine Plan.cmpP (a := (((x_11.length : Nat) : Int) : Int)) (b := ((1 + ((max n_2 (w64 (-(w64 (n_2 + 1))))).tmod 64)) : Int)) (p := ((x_11.length : Nat) : Int) ≠ (1 + ((max n_2 (w64 (-(w64 (n_2 + 1))))).tmod 64))) rfl rfl rfl rfl icmp_ne ?_
      refine Plan.pickFb rfl rfl rfl ?_
      refine Plan.nil ?_
      refine hK42 _ _ ?_; clear hK42
      by_cases hc49 : ((x_11.length : Nat) : Int) ≠ (1 + ((max n_2 (w64 (-(w64 (n_2 + 1))))).tmod 64))
      ·
        replace hR := ifT hR hc49
        refine W.condT (congrArg Value.bool (decide_eq_true hc49)) ?_
        refine W.seq_k fun K50 hK50 => ?_
        refine W.regionT [(0, true)] (by kernel_rfl) ?_
        refine Plan.assign_bool rfl rfl ?_
        refine Plan.nil ?_
        refine hK50 _ _ ?_; clear hK50
        refine W.ret (thenR_ret (finR_ret ?_))
        have h51 := St.pickT (C := [_, _, _, _, _]) h33 [] (by decide)
        simp only [pick, List.filterMap_cons, List.filterMap_nil, List.getElem?_cons_zero, List.getElem?_cons_succ, List.cons_append, List.nil_append] at h51
        subst r
        refine RetOk.mk (.tmp_bool rfl .nil) ?_
        exact ⟨rfl, h51⟩
      ·
        replace hR := ifF hR hc49
        refine W.condF (congrArg Value.bool (decide_eq_false hc49)) ?_
        refine W.skip ?_
        refine hK34 _ _ ?_; clear hK34
        refine W.seq_k fun K52 hK52 => ?_
        refine W.regionT [(0, false), (1, true), (2, false), (3, true)] (by kernel_rfl) ?_
        refine Plan.buildEL h33 (fun _ => undef) FChainHands.slu62 FChainHands.sz61 rfl (EffO.keep PIn.nil) fun b53 w53 hb53 h53 => ?_
        refine Plan.move_slice rfl rfl ?_
        obtain ⟨hc55, hR⟩ := hR
        refine Plan.appendLO (D := D61) (X := ([] : List (Nat → BitVec 8))) (Y := x_11) (sz := 32) h53 () (fun _ => 0#8) 0 LO.empty rfl FChainHands.el62 rfl FChainHands.slu62 rfl rfl rfl rfl (LO.lvf D61_flat hf18_0 4 rfl) (fun _ _ h => h) hc55.1 hc55.2 (fun _ => EffO.keep PIn.nil) fun a54 pb54 cap54 F54 w54 ho54 h54 => ?_
        simp only [List.cons_append, List.nil_append, List.set_cons_zero, List.set_cons_succ] at h54
        replace ho54 : LO D61 [] a54 pb54 (([] : List (Nat → BitVec 8)) ++ x_11).length cap54 F54 (([] : List (Nat → BitVec 8)) ++ x_11) := ho54.re (fun _ _ h => h)
        refine Plan.assign_slice rfl rfl ?_
        refine Plan.nil ?_
        refine hK52 _ _ ?_; clear hK52
        refine W.seq_k fun K56 hK56 => ?_
        refine W.seq_k fun K57 hK57 => ?_
        refine W.regionT [(0, true)] (by kernel_rfl) ?_
        refine Plan.assign_int rfl rfl ?_
        refine Plan.nil ?_
        refine hK57 _ _ ?_; clear hK57
        obtain ⟨b75, hI76, hR076⟩ := hR
        refine W.cutN (fun e w => ∃ y_b75 : List (Nat → BitVec 8), b75 = y_b75 ∧ ∃ n_b75 : Nat, ∃ ab75 : Option Addr, ∃ pb75 : Option Nat, ∃ cb75 : Nat, ∃ Fb75 : Nat → Value, EnvHas e [(1, .int .i64 (1 + ((max n_2 (w64 (-(w64 (n_2 + 1))))).tmod 64))), (2, .int .i64 mark3), (3, .pointer (some ⟨b5, 0, none⟩)), (8, .slice ay1_13 x_11.length cy1_16), (11, .slice ab75 n_b75 cb75), (13, .slice a54 ((([] : List (Nat → BitVec 8)) ++ x_11).length) cap54)] ∧ St B w0 (⟨pb75, 0, cb75 * 32, Fb75, true⟩ :: ⟨pb54, 0, cap54 * 32, F54, true⟩ :: ⟨py1_14, 0, cy1_16 * 32, Fy1_17, true⟩ :: ⟨some b5, 0, 32, fun q => VU .u8 (k1 q), true⟩ :: L) w ∧ LO D61 [] ab75 pb75 n_b75 cb75 Fb75 y_b75) ?_ ?_
        ·
          refine W.block ?_
          have h77 := St.pickT (C := [_, _, _, _, _, _]) h54 [2, 0, 4, 5] (by decide)
          simp only [pick, List.filterMap_cons, List.filterMap_nil, List.getElem?_cons_zero, List.getElem?_cons_succ, List.cons_append, List.nil_append] at h77
          refine W.iter hI76 (fun (s76 : ((List (Nat → BitVec 8)) × Nat)) e w => ∃ n_b73 : Nat, ∃ ab73 : Option Addr, ∃ pb73 : Option Nat, ∃ cb73 : Nat, ∃ Fb73 : Nat → Value, EnvHas e [(1, .int .i64 (1 + ((max n_2 (w64 (-(w64 (n_2 + 1))))).tmod 64))), (2, .int .i64 mark3), (3, .pointer (some ⟨b5, 0, none⟩)), (8, .slice ay1_13 x_11.length cy1_16), (11, .slice ab73 n_b73 cb73), (13, .slice a54 ((([] : List (Nat → BitVec 8)) ++ x_11).length) cap54), (14, VN s76.2)] ∧ St B w0 (⟨pb73, 0, cb73 * 32, Fb73, true⟩ :: ⟨pb54, 0, cap54 * 32, F54, true⟩ :: ⟨py1_14, 0, cy1_16 * 32, Fy1_17, true⟩ :: ⟨some b5, 0, 32, fun q => VU .u8 (k1 q), true⟩ :: L) w ∧ LO D61 [] ab73 pb73 n_b73 cb73 Fb73 s76.1) ⟨x_24.length, ay1_26, py1_27, cy1_29, Fy1_30, (EnvHas.cons rfl (EnvHas.cons rfl (EnvHas.cons rfl (EnvHas.cons rfl (EnvHas.cons rfl (EnvHas.cons rfl (EnvHas.cons rfl EnvHas.nil))))))), h77, hf31_0⟩ ?_
          rintro ⟨b73, i_74⟩ o76 hR hx76 ev78 wl78 ⟨n_b73, ab73, pb73, cb73, Fb73, he78, h78, hb73⟩
          try dsimp only at he78 h78 hb73
          obtain rfl : List.length (α := (Nat → BitVec 8)) b73 = n_b73 := hb73.hl
          obtain ⟨ev78, rfl⟩ := he78.open
          unfold lethelaw13_ChainHands_l0 at hR
          refine W.seq_k fun K79 hK79 => ?_
          refine W.seq_k fun K80 hK80 => ?_
          refine W.regionT [(0, true), (1, true), (2, true), (3, true)] (by kernel_rfl) ?_
          refine Plan.move_int rfl rfl ?_
          refine Plan.move_slice rfl rfl ?_
          refine Plan.len FChainHands.isl62 rfl rfl ?_
          refine Plan.cmpP (a := (((i_74 : Nat) : Int) : Int)) (b := (((b73.length : Nat) : Int) : Int)) (p := i_74 < b73.length) rfl rfl rfl rfl icmp_ltN ?_
          refine Plan.nil ?_
          refine hK80 _ _ ?_; clear hK80
          by_cases hc81 : i_74 < b73.length
          ·
            replace hR := ifT hR hc81
            refine W.condT (congrArg Value.bool (decide_eq_true hc81)) ?_
            refine W.skip ?_
            refine hK79 _ _ ?_; clear hK79
            refine W.seq_k fun K82 hK82 => ?_
            refine W.block ?_
            refine W.regionT [(0, true), (1, true), (2, true), (3, true), (4, true), (5, true), (6, true), (7, true), (8, false)] (by kernel_rfl) ?_
            refine Plan.move_slice rfl rfl ?_
            refine Plan.move_int rfl rfl ?_
            refine Plan.move_int rfl rfl ?_
            refine Plan.convIU .u8 (a := mark3) FChainHands.u5 FChainHands.some3 rfl rfl ?_
            refine Plan.move_int rfl rfl ?_
            refine Plan.convNU .u8 (a := i_74) FChainHands.u5 FChainHands.some3 rfl rfl ?_
            refine Plan.buildArr (ps := [(32, fun q => VU .u8 ((upd (upd (fun _ => 0#8) 0 (BitVec.ofInt 8 mark3)) 1 (BitVec.ofNat 8 i_74)) q))]) FChainHands.arr61 FChainHands.z61 rfl rfl rfl ?_
            obtain ⟨hc83, hR⟩ := hR
            refine Plan.idxLVS (D := D61) (j := i_74) h78 (LO.lvf D61_flat hb73 0 rfl) FChainHands.sl62 rfl rfl rfl hc83 ?_
            refine Plan.storeLO (D := D61) (j := i_74) (sz := 32) h78 () (upd (upd (fun _ => 0#8) 0 (BitVec.ofInt 8 mark3)) 1 (BitVec.ofNat 8 i_74)) 0 hb73 trivial rfl rfl rfl rfl hc83 rfl FChainHands.sz61 (fun _ => EffO.keep PIn.nil) fun w84 F84 ho84 h84 => ?_
            simp only [List.cons_append, List.nil_append, List.set_cons_zero, List.set_cons_succ] at h84
            have e84 : (b73.set i_74 (upd (upd (fun _ => 0#8) 0 (BitVec.ofInt 8 mark3)) 1 (BitVec.ofNat 8 i_74))).length = b73.length := List.length_set
            refine Plan.nil ?_
            refine blockR_norm ?_
            refine hK82 _ _ ?_; clear hK82
            refine W.regionT [(0, true), (1, true), (2, true)] (by kernel_rfl) ?_
            refine Plan.move_int rfl rfl ?_
            obtain ⟨hc85, hR⟩ := hR
            refine Plan.addN (a := i_74) (b := 1) rfl rfl rfl (by omega) ?_
            refine Plan.assign_int rfl rfl ?_
            refine Plan.nil ?_
            exact iterR_norm ⟨_, hR, b73.length, ab73, pb73, cb73, F84, (EnvHas.cons rfl (EnvHas.cons rfl (EnvHas.cons rfl (EnvHas.cons rfl (EnvHas.cons rfl (EnvHas.cons rfl (EnvHas.cons rfl EnvHas.nil))))))), h84, (show LO D61 [] _ _ b73.length _ _ _ from ho84)⟩
          ·
            replace hR := ifF hR hc81
            refine W.condF (congrArg Value.bool (decide_eq_false hc81)) ?_
            refine W.exit (thenR_exit (iterR_exit (blockR_here ?_)))
            exact ⟨b73, (hx76 _ hR).symm, b73.length, ab73, pb73, cb73, Fb73, (EnvHas.cons rfl (EnvHas.cons rfl (EnvHas.cons rfl (EnvHas.cons rfl (EnvHas.cons rfl (EnvHas.cons rfl EnvHas.nil)))))), h78, hb73⟩
        ·
          rintro ev86 wl86 ⟨y_b75, hy86, n_b75, ab75, pb75, cb75, Fb75, he86, h86, hb75⟩
          obtain ⟨ev86, rfl⟩ := he86.open
          subst hy86
          replace hR := hR076
          obtain rfl : List.length (α := (Nat → BitVec 8)) b75 = n_b75 := hb75.hl
          refine hK56 _ _ ?_; clear hK56
          refine W.seq_k fun K87 hK87 => ?_
          refine W.regionT [(0, true), (1, true), (2, true), (3, true), (4, false), (5, false), (6, true)] (by kernel_rfl) ?_
          refine Plan.move_slice rfl rfl ?_
          refine Plan.move_int rfl rfl ?_
          refine Plan.convIU .u8 (a := mark3) FChainHands.u5 FChainHands.some3 rfl rfl ?_
          refine Plan.buildArr (ps := [(32, fun q => VU .u8 ((upd (upd (fun _ => 0#8) 0 (BitVec.ofInt 8 mark3)) 1 (99#8)) q))]) FChainHands.arr61 FChainHands.z61 rfl rfl rfl ?_
          refine Plan.buildLO (D := D61) (sz := 32) h86 [((), (upd (upd (fun _ => 0#8) 0 (BitVec.ofInt 8 mark3)) 1 (99#8)))] FChainHands.slu62 FChainHands.sz61 FChainHands.zv61 (by decide) (by decide) rfl rfl rfl rfl (fun _ _ => trivial) (EffO.keep PIn.nil) fun b89 w89 F89 hb89 ho89 h89 => ?_
          replace ho89 : LO D61 [] (some ⟨b89, 0, none⟩) (some b89) ([(upd (upd (fun _ => 0#8) 0 (BitVec.ofInt 8 mark3)) 1 (99#8))] : List (Nat → BitVec 8)).length 1 F89 ([(upd (upd (fun _ => 0#8) 0 (BitVec.ofInt 8 mark3)) 1 (99#8))] : List (Nat → BitVec 8)) := ho89.re (fun _ _ h => h)
          obtain ⟨hc91, hR⟩ := hR
          refine Plan.appendLK (D := D61) (X := b75) (Y := ([(upd (upd (fun _ => 0#8) 0 (BitVec.ofInt 8 mark3)) 1 (99#8))] : List (Nat → BitVec 8))) (sz := 32) h89 () (fun _ => 0#8) 1 D61_flat hb75 rfl FChainHands.el62 rfl FChainHands.slu62 rfl rfl rfl rfl (LO.lvf D61_flat ho89 0 rfl) hc91.1 hc91.2 (fun _ _ => EffO.keep .nil) fun a90 pb90 cap90 F90 r90 iz90 w90 ho90 hi90 hv90 h90 => ?_
          simp only [List.cons_append, List.nil_append, List.set_cons_zero, List.set_cons_succ] at h90 hv90
          refine Plan.assign_slice rfl rfl ?_
          refine Plan.nil ?_
          refine hK87 _ _ ?_; clear hK87
          refine W.seq_k fun K92 hK92 => ?_
          refine W.seq_k fun K93 hK93 => ?_
          refine W.regionT [(0, true), (1, true), (2, false), (3, true)] (by kernel_rfl) ?_
          refine Plan.move_slice rfl rfl ?_
          refine Plan.move_slice rfl rfl ?_
          obtain ⟨x_95, hr94, hR⟩ := hR
          refine Plan.call (vs := [.slice ay1_13 x_11.length cy1_16, .slice a54 ((([] : List (Nat → BitVec 8)) ++ x_11).length) cap54]) rfl FChainHands.call39 rfl (lethelaw13_sameKeys_ok (by exact (LO.lvf D61_flat hf18_0 4 rfl)) (by exact (LO.lvf D61_flat ho54 3 rfl)) hr94 h90) ?_
          rintro _ w96 ⟨rfl, h96⟩
          refine ⟨_, rfl, .inl ⟨PIn.keep PIn.nil h96, ?_⟩⟩
          refine Plan.not rfl rfl ?_
          refine Plan.nil ?_
          refine hK93 _ _ ?_; clear hK93
          by_cases hc97 : x_95 = true
          ·
            replace hR := ifT hR hc97
            refine W.condF (congrArg Value.bool (congrArg Bool.not hc97)) ?_
            refine W.skip ?_
            refine hK92 _ _ ?_; clear hK92
            refine W.seq_k fun K98 hK98 => ?_
            refine W.regionT [(0, true), (1, true), (2, false), (3, true), (4, true), (5, true), (6, true), (7, false), (8, false), (9, true), (10, true)] (by kernel_rfl) ?_
            refine Plan.loadA1 h96 5 rfl rfl rfl FChainHands.agg61 ?_
            refine Plan.move_int rfl rfl ?_
            obtain ⟨x_100, x_101, x_102, hr99, hR⟩ := hR
            refine Plan.call (vs := [AG [(32, fun q => VU .u8 (k1 q))], .int .i64 (1 + ((max n_2 (w64 (-(w64 (n_2 + 1))))).tmod 64))]) rfl FChainHands.call38 rfl (chain_Ahead_ok (iG0 := iG0 + 6) hG0 (iG1 := iG1 + 6) hG1 hr99 h96) ?_
            rintro _ w108 ⟨ay1_103, py1_104, ny1_105, cy1_106, Fy1_107, rfl, h108, hf108_0⟩
            try dsimp only at hf108_0
            obtain rfl := hf108_0.hl
            refine ⟨_, rfl, .inr ⟨rfl, ?_⟩⟩
            refine Plan.move_tuple rfl rfl ?_
            refine Plan.extract_agg rfl rfl rfl ?_
            refine Plan.extract_slice rfl rfl rfl ?_
            refine Plan.extract_int rfl rfl rfl ?_
            refine Plan.alloc h108 rfl FChainHands.z61 PIn.nil fun b109 w109 hb109 h109 => ?_
            simp only [rngs, Nat.zero_add, Nat.reduceAdd, List.cons_append, List.nil_append] at h109
            refine Plan.storeA (f' := fun q => VU .u8 (x_100 q)) h109 0 rfl rfl rfl rfl (fun _ _ => rfl) FChainHands.sz61 rfl fun w110 h110 => ?_
            simp only [List.cons_append, List.nil_append, List.set_cons_zero, List.set_cons_succ] at h110
            refine Plan.assign_slice rfl rfl ?_
            refine Plan.assign_int rfl rfl ?_
            refine Plan.nil ?_
            refine hK98 _ _ ?_; clear hK98
            refine W.seq_k fun K111 hK111 => ?_
            refine W.seq_k fun K129 hK129 => ?_
            refine W.regionT [(0, true), (1, true), (2, true), (3, true), (4, true), (5, false), (6, true), (7, true), (8, true), (9, true), (10, true), (11, false), (12, true), (13, true), (14, true), (15, true), (16, true), (17, true), (18, true), (19, true), (20, true), (21, true), (22, true), (23, true)] (by kernel_rfl) ?_
            refine Plan.move_int rfl rfl ?_
            by_cases hc130 : x_102 ≠ 0
            ·
              replace hR := ifT hR hc130
              refine Plan.cmpV (a := (((x_102 : Nat) : Int) : Int)) (b := (0 : Int)) (p := x_102 ≠ 0) (v := true) rfl rfl rfl rfl icmp_neN (decide_eq_true hc130) ?_
              refine Plan.move_bool rfl rfl ?_
              refine Plan.passed rfl ?_
              refine Plan.passed rfl ?_
              refine Plan.passed rfl ?_
              refine Plan.passed rfl ?_
              refine Plan.pickTb rfl rfl rfl ?_
              refine Plan.move_bool rfl rfl ?_
              refine Plan.passed rfl ?_
              refine Plan.passed rfl ?_
              refine Plan.passed rfl ?_
              refine Plan.passed rfl ?_
              refine Plan.pickTb rfl rfl rfl ?_
              refine Plan.move_bool rfl rfl ?_
              refine Plan.passed rfl ?_
              refine Plan.passed rfl ?_
              refine Plan.passed rfl ?_
              refine Plan.passed rfl ?_
              refine Plan.passed rfl ?_
              refine Plan.passed rfl ?_
              refine Plan.passed rfl ?_
              refine Plan.passed rfl ?_
              refine Plan.pickTb rfl rfl rfl ?_
              refine Plan.nil ?_
              refine hK129 _ _ ?_; clear hK129
              refine W.condT rfl ?_
              refine W.seq_k fun K131 hK131 => ?_
              refine W.regionT [(0, true)] (by kernel_rfl) ?_
              refine Plan.assign_bool rfl rfl ?_
              refine Plan.nil ?_
              refine hK131 _ _ ?_; clear hK131
              refine W.ret (thenR_ret (finR_ret ?_))
              have h132 := St.pickT (C := [_, _, _, _, _, _, _, _]) h110 [] (by decide)
              simp only [pick, List.filterMap_cons, List.filterMap_nil, List.getElem?_cons_zero, List.getElem?_cons_succ, List.cons_append, List.nil_append] at h132
              subst r
              refine RetOk.mk (.tmp_bool rfl .nil) ?_
              exact ⟨rfl, h132⟩
            ·
              replace hR := ifF hR hc130
              refine Plan.cmpV (a := (((x_102 : Nat) : Int) : Int)) (b := (0 : Int)) (p := x_102 ≠ 0) (v := false) rfl rfl rfl rfl icmp_neN (decide_eq_false hc130) ?_
              refine Plan.move_bool rfl rfl ?_
              refine Plan.move_slice rfl rfl ?_
              refine Plan.move_slice rfl rfl ?_
              obtain ⟨x_134, hr133, hR⟩ := hR
              refine Plan.call (vs := [.slice ay1_103 x_101.length cy1_106, .slice a54 ((([] : List (Nat → BitVec 8)) ++ x_11).length) cap54]) rfl FChainHands.call39 rfl (lethelaw13_sameKeys_ok (by exact (LO.lvf D61_flat hf108_0 1 rfl)) (by exact (LO.lvf D61_flat ho54 5 rfl)) hr133 h110) ?_
              rintro _ w135 ⟨rfl, h135⟩
              refine ⟨_, rfl, .inl ⟨PIn.keep PIn.nil h135, ?_⟩⟩
              by_cases hc136 : x_134 = true
              ·
                replace hR := ifT hR hc136
                obtain rfl : x_134 = true := hc136
                refine Plan.notT rfl rfl ?_
                refine Plan.pickFb rfl rfl rfl ?_
                refine Plan.move_bool rfl rfl ?_
                refine Plan.move_slice rfl rfl ?_
                refine Plan.move_slice rfl rfl ?_
                obtain ⟨x_138, hr137, hR⟩ := hR
                refine Plan.call (vs := [.slice ay1_13 x_11.length cy1_16, .slice a54 ((([] : List (Nat → BitVec 8)) ++ x_11).length) cap54]) rfl FChainHands.call39 rfl (lethelaw13_sameKeys_ok (by exact (LO.lvf D61_flat hf18_0 6 rfl)) (by exact (LO.lvf D61_flat ho54 5 rfl)) hr137 h135) ?_
                rintro _ w139 ⟨rfl, h139⟩
                refine ⟨_, rfl, .inl ⟨PIn.keep PIn.nil h139, ?_⟩⟩
                by_cases hc140 : x_138 = true
                ·
                  replace hR := ifT hR hc140
                  obtain rfl : x_138 = true := hc140
                  refine Plan.notT rfl rfl ?_
                  refine Plan.pickFb rfl rfl rfl ?_
                  refine Plan.move_bool rfl rfl ?_
                  refine Plan.move_slice rfl rfl ?_
                  refine Plan.move_int rfl rfl ?_
                  obtain ⟨hc141, hR⟩ := hR
                  refine Plan.idxLVS (D := D61) (j := (1 + ((max n_2 (w64 (-(w64 (n_2 + 1))))).tmod 64)).toNat) h139 (LO.lvf D61_flat ho90 2 rfl) FChainHands.sl62 rfl rfl (congrArg (Value.int .i64) (Int.toNat_of_nonneg hc141.1).symm) (toNat_lt hc141.1 hc141.2) ?_
                  refine Plan.loadLV (D := D61) (X := (b75 ++ ([(upd (upd (fun _ => 0#8) 0 (BitVec.ofInt 8 mark3)) 1 (99#8))] : List (Nat → BitVec 8)))) (j := (1 + ((max n_2 (w64 (-(w64 (n_2 + 1))))).tmod 64)).toNat) (sz := 32) h139 (fun _ => 0#8) (LO.lvf D61_flat ho90 2 rfl) rfl rfl (toNat_lt hc141.1 hc141.2) rfl FChainHands.agg61 fun b142 r142 hs142 hr142 => ?_
                  refine Plan.move_int rfl rfl ?_
                  refine Plan.convIU .u8 (a := mark3) FChainHands.u5 FChainHands.some3 rfl rfl ?_
                  refine Plan.buildArr (ps := [(32, fun q => VU .u8 ((upd (upd (fun _ => 0#8) 0 (BitVec.ofInt 8 mark3)) 1 (99#8)) q))]) FChainHands.arr61 FChainHands.z61 rfl rfl rfl ?_
                  refine Plan.neArrV (b := (eqB 32 ((b75 ++ ([(upd (upd (fun _ => 0#8) 0 (BitVec.ofInt 8 mark3)) 1 (99#8))] : List (Nat → BitVec 8))).getD ((1 + ((max n_2 (w64 (-(w64 (n_2 + 1))))).tmod 64)).toNat) (fun _ => 0#8)) (upd (upd (fun _ => 0#8) 0 (BitVec.ofInt 8 mark3)) 1 (99#8)))) FChainHands.arrI61 rfl rfl rfl rfl ?_
                  refine Plan.pickFb rfl rfl rfl ?_
                  refine Plan.nil ?_
                  refine hK129 _ _ ?_; clear hK129
                  by_cases hc143 : (eqB 32 ((b75 ++ ([(upd (upd (fun _ => 0#8) 0 (BitVec.ofInt 8 mark3)) 1 (99#8))] : List (Nat → BitVec 8))).getD ((1 + ((max n_2 (w64 (-(w64 (n_2 + 1))))).tmod 64)).toNat) (fun _ => 0#8)) (upd (upd (fun _ => 0#8) 0 (BitVec.ofInt 8 mark3)) 1 (99#8))) = true
                  ·
                    replace hR := ifT hR hc143
                    refine W.condF (congrArg Value.bool (congrArg Bool.not hc143)) ?_
                    refine W.skip ?_
                    refine hK111 _ _ ?_; clear hK111
                    refine W.seq_k fun K144 hK144 => ?_
                    refine W.seq_k fun K145 hK145 => ?_
                    refine W.regionT [(0, true)] (by kernel_rfl) ?_
                    refine Plan.assign_int rfl rfl ?_
                    refine Plan.nil ?_
                    refine hK145 _ _ ?_; clear hK145
                    obtain ⟨x167, hI167, hR0167⟩ := hR
                    refine W.cutN (fun e w => x167 = some () ∧ EnvHas e [] ∧ St B w0 (L) w) ?_ ?_
                    ·
                      refine W.block ?_
                      have h168 := St.pickT (C := [_, _, _, _, _, _, _, _]) h139 [2, 4] (by decide)
                      simp only [pick, List.filterMap_cons, List.filterMap_nil, List.getElem?_cons_zero, List.getElem?_cons_succ, List.cons_append, List.nil_append] at h168
                      refine W.iter hI167 (fun (s167 : Nat) e w => EnvHas e [(2, .int .i64 mark3), (11, .slice ab75 b75.length cb75), (19, VN s167)] ∧ St B w0 (⟨pb90, 0, cap90 * 32, F90, true⟩ :: r90 :: L) w) ⟨(EnvHas.cons rfl (EnvHas.cons rfl (EnvHas.cons rfl EnvHas.nil))), h168⟩ ?_
                      rintro i_166 o167 hR hx167 ev169 wl169 ⟨he169, h169⟩
                      obtain ⟨ev169, rfl⟩ := he169.open
                      unfold lethelaw13_ChainHands_l1 at hR
                      refine W.seq_k fun K170 hK170 => ?_
                      refine W.seq_k fun K171 hK171 => ?_
                      refine W.regionT [(0, true), (1, true), (2, true), (3, true)] (by kernel_rfl) ?_
                      refine Plan.move_int rfl rfl ?_
                      refine Plan.move_slice rfl rfl ?_
                      refine Plan.len FChainHands.isl62 rfl rfl ?_
                      refine Plan.cmpP (a := (((i_166 : Nat) : Int) : Int)) (b := (((b75.length : Nat) : Int) : Int)) (p := i_166 < b75.length) rfl rfl rfl rfl icmp_ltN ?_
                      refine Plan.nil ?_
                      refine hK171 _ _ ?_; clear hK171
                      by_cases hc172 : i_166 < b75.length
                      ·
                        replace hR := ifT hR hc172
                        refine W.condT (congrArg Value.bool (decide_eq_true hc172)) ?_
                        refine W.skip ?_
                        refine hK170 _ _ ?_; clear hK170
                        refine W.seq_k fun K173 hK173 => ?_
                        refine W.block ?_
                        refine W.seq_k fun K174 hK174 => ?_
                        refine W.regionT [(0, true), (1, true), (2, true), (3, true), (4, true), (5, true), (6, true), (7, true), (8, true), (9, true)] (by kernel_rfl) ?_
                        refine Plan.move_slice rfl rfl ?_
                        refine Plan.move_int rfl rfl ?_
                        obtain ⟨hc175, hR⟩ := hR
                        refine Plan.idxLVS (D := D61) (j := i_166) h169 (LV.two (L' := [_, _] ++ _) (j1 := 0) (j2 := 1) D61_flat hv90 hi90 rfl rfl rfl rfl) FChainHands.sl62 rfl rfl rfl hc175 ?_
                        refine Plan.loadLV (D := D61) (X := b75) (j := i_166) (sz := 32) h169 (fun _ => 0#8) (LV.two (L' := [_, _] ++ _) (j1 := 0) (j2 := 1) D61_flat hv90 hi90 rfl rfl rfl rfl) rfl rfl hc175 rfl FChainHands.agg61 fun b176 r176 hs176 hr176 => ?_
                        refine Plan.move_int rfl rfl ?_
                        refine Plan.convIU .u8 (a := mark3) FChainHands.u5 FChainHands.some3 rfl rfl ?_
                        refine Plan.move_int rfl rfl ?_
                        refine Plan.convNU .u8 (a := i_166) FChainHands.u5 FChainHands.some3 rfl rfl ?_
                        refine Plan.buildArr (ps := [(32, fun q => VU .u8 ((upd (upd (fun _ => 0#8) 0 (BitVec.ofInt 8 mark3)) 1 (BitVec.ofNat 8 i_166)) q))]) FChainHands.arr61 FChainHands.z61 rfl rfl rfl ?_
                        refine Plan.neArrV (b := (eqB 32 (b75.getD i_166 (fun _ => 0#8)) (upd (upd (fun _ => 0#8) 0 (BitVec.ofInt 8 mark3)) 1 (BitVec.ofNat 8 i_166)))) FChainHands.arrI61 rfl rfl rfl rfl ?_
                        refine Plan.nil ?_
                        refine hK174 _ _ ?_; clear hK174
                        by_cases hc177 : (eqB 32 (b75.getD i_166 (fun _ => 0#8)) (upd (upd (fun _ => 0#8) 0 (BitVec.ofInt 8 mark3)) 1 (BitVec.ofNat 8 i_166))) = true
                        ·
                          replace hR := ifT hR hc177
                          refine W.condF (congrArg Value.bool (congrArg Bool.not hc177)) ?_
                          refine W.skip ?_
                          refine blockR_norm ?_
                          refine hK173 _ _ ?_; clear hK173
                          refine W.regionT [(0, true), (1, true), (2, true)] (by kernel_rfl) ?_
                          refine Plan.move_int rfl rfl ?_
                          obtain ⟨hc178, hR⟩ := hR
                          refine Plan.addN (a := i_166) (b := 1) rfl rfl rfl (by omega) ?_
                          refine Plan.assign_int rfl rfl ?_
                          refine Plan.nil ?_
                          exact iterR_norm ⟨_, hR, (EnvHas.cons rfl (EnvHas.cons rfl (EnvHas.cons rfl EnvHas.nil))), h169⟩
                        ·
                          replace hR := ifF hR hc177
                          refine W.condT (congrArg Value.bool (congrArg Bool.not (Bool.eq_false_iff.2 hc177))) ?_
                          refine W.seq_k fun K179 hK179 => ?_
                          refine W.regionT [(0, true)] (by kernel_rfl) ?_
                          refine Plan.assign_bool rfl rfl ?_
                          refine Plan.nil ?_
                          refine hK179 _ _ ?_; clear hK179
                          refine W.ret (blockR_ret (thenR_ret (iterR_ret (blockR_ret (thenR_ret (thenR_ret (finR_ret ?_)))))))
                          have h180 := St.pickT (C := [_, _]) h169 [] (by decide)
                          simp only [pick, List.filterMap_cons, List.filterMap_nil, List.getElem?_cons_zero, List.getElem?_cons_succ, List.cons_append, List.nil_append] at h180
                          replace hR := hR.2
                          subst r
                          refine RetOk.mk (.tmp_bool rfl .nil) ?_
                          exact ⟨rfl, h180⟩
                      ·
                        replace hR := ifF hR hc172
                        refine W.condF (congrArg Value.bool (decide_eq_false hc172)) ?_
                        refine W.exit (thenR_exit (iterR_exit (blockR_here ?_)))
                        have h181 := St.pickT (C := [_, _]) h169 [] (by decide)
                        simp only [pick, List.filterMap_cons, List.filterMap_nil, List.getElem?_cons_zero, List.getElem?_cons_succ, List.cons_append, List.nil_append] at h181
                        exact ⟨(hx167 _ hR).symm, EnvHas.nil, h181⟩
                    ·
                      rintro ev182 wl182 ⟨hy182, he182, h182⟩
                      obtain ⟨ev182, rfl⟩ := he182.open
                      replace hR := hR0167  hy182
                      refine hK144 _ _ ?_; clear hK144
                      refine W.seq_k fun K183 hK183 => ?_
                      refine W.regionT [(0, true)] (by kernel_rfl) ?_
                      refine Plan.assign_bool rfl rfl ?_
                      refine Plan.nil ?_
                      refine hK183 _ _ ?_; clear hK183
                      refine W.ret (finR_ret ?_)
                      subst r
                      refine RetOk.mk (.tmp_bool rfl .nil) ?_
                      exact ⟨rfl, h182⟩
                  ·
                    replace hR := ifF hR hc143
                    refine W.condT (congrArg Value.bool (congrArg Bool.not (Bool.eq_false_iff.2 hc143))) ?_
                    refine W.seq_k fun K184 hK184 => ?_
                    refine W.regionT [(0, true)] (by kernel_rfl) ?_
                    refine Plan.assign_bool rfl rfl ?_
                    refine Plan.nil ?_
                    refine hK184 _ _ ?_; clear hK184
                    refine W.ret (thenR_ret (finR_ret ?_))
                    have h185 := St.pickT (C := [_, _, _, _, _, _, _, _]) h139 [] (by decide)
                    simp only [pick, List.filterMap_cons, List.filterMap_nil, List.getElem?_cons_zero, List.getElem?_cons_succ, List.cons_append, List.nil_append] at h185
                    subst r
                    refine RetOk.mk (.tmp_bool rfl .nil) ?_
                    exact ⟨rfl, h185⟩
                ·
                  replace hR := ifF hR hc140
                  obtain rfl : x_138 = false := Bool.eq_false_iff.2 hc140
                  refine Plan.notF rfl rfl ?_
                  refine Plan.pickFb rfl rfl rfl ?_
                  refine Plan.move_bool rfl rfl ?_
                  refine Plan.passed rfl ?_
                  refine Plan.passed rfl ?_
                  refine Plan.passed rfl ?_
                  refine Plan.passed rfl ?_
                  refine Plan.passed rfl ?_
                  refine Plan.passed rfl ?_
                  refine Plan.passed rfl ?_
                  refine Plan.passed rfl ?_
                  refine Plan.pickTb rfl rfl rfl ?_
                  refine Plan.nil ?_
                  refine hK129 _ _ ?_; clear hK129
                  refine W.condT rfl ?_
                  refine W.seq_k fun K186 hK186 => ?_
                  refine W.regionT [(0, true)] (by kernel_rfl) ?_
                  refine Plan.assign_bool rfl rfl ?_
                  refine Plan.nil ?_
                  refine hK186 _ _ ?_; clear hK186
                  refine W.ret (thenR_ret (finR_ret ?_))
                  have h187 := St.pickT (C := [_, _, _, _, _, _, _, _]) h139 [] (by decide)
                  simp only [pick, List.filterMap_cons, List.filterMap_nil, List.getElem?_cons_zero, List.getElem?_cons_succ, List.cons_append, List.nil_append] at h187
                  subst r
                  refine RetOk.mk (.tmp_bool rfl .nil) ?_
                  exact ⟨rfl, h187⟩
              ·
                replace hR := ifF hR hc136
                obtain rfl : x_134 = false := Bool.eq_false_iff.2 hc136
                refine Plan.notF rfl rfl ?_
                refine Plan.pickFb rfl rfl rfl ?_
                refine Plan.move_bool rfl rfl ?_
                refine Plan.passed rfl ?_
                refine Plan.passed rfl ?_
                refine Plan.passed rfl ?_
                refine Plan.passed rfl ?_
                refine Plan.pickTb rfl rfl rfl ?_
                refine Plan.move_bool rfl rfl ?_
                refine Plan.passed rfl ?_
                refine Plan.passed rfl ?_
                refine Plan.passed rfl ?_
                refine Plan.passed rfl ?_
                refine Plan.passed rfl ?_
                refine Plan.passed rfl ?_
                refine Plan.passed rfl ?_
                refine Plan.passed rfl ?_
                refine Plan.pickTb rfl rfl rfl ?_
                refine Plan.nil ?_
                refine hK129 _ _ ?_; clear hK129
                refine W.condT rfl ?_
                refine W.seq_k fun K188 hK188 => ?_
                refine W.regionT [(0, true)] (by kernel_rfl) ?_
                refine Plan.assign_bool rfl rfl ?_
                refine Plan.nil ?_
                refine hK188 _ _ ?_; clear hK188
                refine W.ret (thenR_ret (finR_ret ?_))
                have h189 := St.pickT (C := [_, _, _, _, _, _, _, _]) h135 [] (by decide)
                simp only [pick, List.filterMap_cons, List.filterMap_nil, List.getElem?_cons_zero, List.getElem?_cons_succ, List.cons_append, List.nil_append] at h189
                subst r
                refine RetOk.mk (.tmp_bool rfl .nil) ?_
                exact ⟨rfl, h189⟩
          ·
            replace hR := ifF hR hc97
            refine W.condT (congrArg Value.bool (congrArg Bool.not (Bool.eq_false_iff.2 hc97))) ?_
            refine W.seq_k fun K190 hK190 => ?_
            refine W.regionT [(0, true)] (by kernel_rfl) ?_
            refine Plan.assign_bool rfl rfl ?_
            refine Plan.nil ?_
            refine hK190 _ _ ?_; clear hK190
            refine W.ret (thenR_ret (finR_ret ?_))
            have h191 := St.pickT (C := [_, _, _, _, _, _]) h96 [] (by decide)
            simp only [pick, List.filterMap_cons, List.filterMap_nil, List.getElem?_cons_zero, List.getElem?_cons_succ, List.cons_append, List.nil_append] at h191
            subst r
            refine RetOk.mk (.tmp_bool rfl .nil) ?_
            exact ⟨rfl, h191⟩

end Go.Proofs.YtjdgbahjpdopbaaDoor
