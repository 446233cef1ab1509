/-
  WALKS of the package's functions, printed by this session's own program (auto.py).
-/
import Derived.Test.YtjdgbahjpdopbaaDoorProg
import Derived.Test.YtjdgbahjpdopbaaDoorLx9
import Derived.Test.YtjdgbahjpdopbaaDoorRChainSteps
import Derived.Test.YtjdgbahjpdopbaaDoorEls
import Derived.Test.YtjdgbahjpdopbaaDoorWChain
import Derived.Test.YtjdgbahjpdopbaaDoorWKdf
import Derived.Test.YtjdgbahjpdopbaaDoorWLaw13
namespace Go.Proofs.YtjdgbahjpdopbaaDoor
set_option linter.unusedSimpArgs false
set_option linter.unusedVariables false
set_option linter.unusedSectionVars false
open Go Go.LW
theorem FChainSteps.slu22 : Tryd.prog.underlying 22 = some (.slice 5) := by kernel_rfl
theorem FChainSteps.u5 : Tryd.prog.underlying 5 = some (.int .u8) := by kernel_rfl
theorem FChainSteps.sz5 : szT Tryd.prog 5 1 = true := by kernel_rfl
theorem FChainSteps.zv5 : (Tryd.prog.info? 5).bind (·.zero) = some (VU .u8 0#8) := by kernel_rfl
theorem FChainSteps.zv22 : (Tryd.prog.info? 22).bind (·.zero) = some (.slice none 0 0) := by kernel_rfl
theorem FChainSteps.slu75 : Tryd.prog.underlying 75 = some (.slice 22) := by kernel_rfl
theorem FChainSteps.sz22 : szT Tryd.prog 22 1 = true := by kernel_rfl
theorem FChainSteps.mixed : Tryd.prog.follows .mixedOrders = true := by kernel_rfl
theorem FChainSteps.call36 : callB Tryd.prog 36 = true := by kernel_rfl
theorem FChainSteps.str9 : Tryd.prog.underlying 9 = some .string := by kernel_rfl
theorem FChainSteps.call42 : callB Tryd.prog 42 = true := by kernel_rfl
theorem FChainSteps.agg61 : aggT Tryd.prog 61 32 = true := by kernel_rfl
theorem FChainSteps.slu62 : Tryd.prog.underlying 62 = some (.slice 61) := by kernel_rfl
theorem FChainSteps.sz61 : szT Tryd.prog 61 32 = true := by kernel_rfl
theorem FChainSteps.el62 : elD Tryd.prog 62 = some (32, 32, some (AG [(32, fun _ => VU .u8 0#8)])) := by kernel_rfl
theorem FChainSteps.isl62 : ∃ el, Tryd.prog.underlying 62 = some (.slice el) := ⟨61, by kernel_rfl⟩
theorem FChainSteps.sl62 : slB Tryd.prog 62 32 = true := by kernel_rfl
theorem FChainSteps.arr61 : arrB Tryd.prog 61 32 1 = true := by kernel_rfl
theorem FChainSteps.z61 : zeroIs Tryd.prog 61 [(32, fun _ => VU .u8 0#8)] := zeroIs_agg (by kernel_rfl)
theorem FChainSteps.call48 : callB Tryd.prog 48 = true := by kernel_rfl
theorem FChainSteps.call38 : callB Tryd.prog 38 = true := by kernel_rfl
theorem FChainSteps.arrI61 : arrIB Tryd.prog 61 32 .u8 = true := by kernel_rfl
theorem FChainSteps.call39 : callB Tryd.prog 39 = true := by kernel_rfl
theorem FChainSteps.call46 : callB Tryd.prog 46 = true := by kernel_rfl

set_option maxRecDepth 8000 in
set_option maxHeartbeats 1000000 in
theorem lethelaw13_ChainSteps_ok {B : Nat} {w0 w : World} {L : List Rg} {iG0 : Nat} (hG0 : L[iG0]? = some ⟨some 0, 0, 64, fun q => VU .u32 (K256 q), false⟩) {iG1 : Nat} (hG1 : L[iG1]? = some ⟨some 1, 0, 8, fun q => VU .u32 (H256 q), false⟩) {k1 : Nat → BitVec 8} {s2 : Nat → BitVec 8} {m3 : Int} {n_4 : Int} {r : Bool} (hR : lethelaw13_ChainSteps k1 s2 m3 n_4 r) (HST : St B w0 (L) w) :
    Calls Tryd.prog 16 #[AG [(32, fun q => VU .u8 (k1 q))], AG [(32, fun q => VU .u8 (s2 q))], .int .i64 m3, .int .i64 n_4] w fun e w' => e = .returned (.bool r) ∧ St B w0 (L) w' := by
  refine W.enter 163 Tryd.func16 rfl rfl rfl ?_
  unfold lethelaw13_ChainSteps at hR
  refine W.seq_k fun K5 hK5 => ?_
  refine W.regionT [(0, false), (1, false), (2, true)] (by kernel_rfl) ?_
  refine Plan.boxA HST rfl rfl PIn.nil fun b6 w6 hb6 h6 => ?_
  simp only [rngs, Nat.zero_add, Nat.reduceAdd, List.cons_append, List.nil_append] at h6
  refine Plan.boxA h6 rfl rfl PIn.nil fun b7 w7 hb7 h7 => ?_
  simp only [rngs, Nat.zero_add, Nat.reduceAdd, List.cons_append, List.nil_append] at h7
  refine Plan.assign_bool rfl rfl ?_
  refine Plan.nil ?_
  refine hK5 _ _ ?_; clear hK5
  refine W.seq_k fun K8 hK8 => ?_
  refine W.regionT [(0, true), (1, true), (2, true), (3, true), (4, true), (5, true), (6, true)] (by kernel_rfl) ?_
  refine Plan.move_int rfl rfl ?_
  refine Plan.move_int rfl rfl ?_
  refine Plan.addW (a := m3) (b := 1) rfl rfl rfl ?_
  refine Plan.negW (a := (w64 (m3 + 1))) rfl rfl ?_
  refine Plan.maxI (a := m3) (b := (w64 (-(w64 (m3 + 1))))) rfl rfl rfl ?_
  have hb9 := tmod_bd (max m3 (w64 (-(w64 (m3 + 1))))) (c := 33) (by decide)
  refine Plan.remI (a := (max m3 (w64 (-(w64 (m3 + 1)))))) (b := 33) rfl rfl rfl (by omega) ?_
  refine Plan.assign_int rfl rfl ?_
  refine Plan.nil ?_
  refine hK8 _ _ ?_; clear hK8
  refine W.seq_k fun K10 hK10 => ?_
  refine W.regionT [(0, true), (1, true), (2, true), (3, true), (4, true), (5, true), (6, true)] (by kernel_rfl) ?_
  refine Plan.move_int rfl rfl ?_
  refine Plan.move_int rfl rfl ?_
  refine Plan.addW (a := n_4) (b := 1) rfl rfl rfl ?_
  refine Plan.negW (a := (w64 (n_4 + 1))) rfl rfl ?_
  refine Plan.maxI (a := n_4) (b := (w64 (-(w64 (n_4 + 1))))) rfl rfl rfl ?_
  have hb11 := tmod_bd (max n_4 (w64 (-(w64 (n_4 + 1))))) (c := 32) (by decide)
  refine Plan.remI (a := (max n_4 (w64 (-(w64 (n_4 + 1)))))) (b := 32) rfl rfl rfl (by omega) ?_
  refine Plan.assign_int rfl rfl ?_
  refine Plan.nil ?_
  refine hK10 _ _ ?_; clear hK10
  refine W.seq_k fun K12 hK12 => ?_
  refine W.regionT [(0, true), (1, true), (2, false), (3, true), (4, true), (5, true), (6, true), (7, false), (8, false), (9, true), (10, true)] (by kernel_rfl) ?_
  refine Plan.loadA1 h7 1 rfl rfl rfl FChainSteps.agg61 ?_
  refine Plan.move_int rfl rfl ?_
  obtain ⟨x_14, x_15, x_16, hr13, hR⟩ := hR
  refine Plan.call (vs := [AG [(32, fun q => VU .u8 (k1 q))], .int .i64 ((max m3 (w64 (-(w64 (m3 + 1))))).tmod 33)]) rfl FChainSteps.call38 rfl (chain_Ahead_ok (iG0 := iG0 + 2) hG0 (iG1 := iG1 + 2) hG1 hr13 h7) ?_
  rintro _ w22 ⟨ay1_17, py1_18, ny1_19, cy1_20, Fy1_21, rfl, h22, hf22_0⟩
  try dsimp only at hf22_0
  obtain rfl := hf22_0.hl
  refine ⟨_, rfl, .inr ⟨rfl, ?_⟩⟩
  refine Plan.move_tuple rfl rfl ?_
  refine Plan.extract_agg rfl rfl rfl ?_
  refine Plan.extract_slice rfl rfl rfl ?_
  refine Plan.extract_int rfl rfl rfl ?_
  refine Plan.alloc h22 rfl FChainSteps.z61 PIn.nil fun b23 w23 hb23 h23 => ?_
  simp only [rngs, Nat.zero_add, Nat.reduceAdd, List.cons_append, List.nil_append] at h23
  refine Plan.storeA (f' := fun q => VU .u8 (x_14 q)) h23 0 rfl rfl rfl rfl (fun _ _ => rfl) FChainSteps.sz61 rfl fun w24 h24 => ?_
  simp only [List.cons_append, List.nil_append, List.set_cons_zero, List.set_cons_succ] at h24
  refine Plan.assign_slice rfl rfl ?_
  refine Plan.assign_int rfl rfl ?_
  refine Plan.nil ?_
  refine hK12 _ _ ?_; clear hK12
  refine W.seq_k fun K25 hK25 => ?_
  refine W.regionT [(0, true), (1, true), (2, false), (3, true), (4, true), (5, true), (6, true), (7, false), (8, false), (9, true), (10, true)] (by kernel_rfl) ?_
  refine Plan.loadA1 h24 0 rfl rfl rfl FChainSteps.agg61 ?_
  refine Plan.move_int rfl rfl ?_
  obtain ⟨x_27, x_28, x_29, hr26, hR⟩ := hR
  refine Plan.call (vs := [AG [(32, fun q => VU .u8 (x_14 q))], .int .i64 ((max n_4 (w64 (-(w64 (n_4 + 1))))).tmod 32)]) rfl FChainSteps.call38 rfl (chain_Ahead_ok (iG0 := iG0 + 4) hG0 (iG1 := iG1 + 4) hG1 hr26 h24) ?_
  rintro _ w35 ⟨ay1_30, py1_31, ny1_32, cy1_33, Fy1_34, rfl, h35, hf35_0⟩
  try dsimp only at hf35_0
  obtain rfl := hf35_0.hl
  refine ⟨_, rfl, .inr ⟨rfl, ?_⟩⟩
  refine Plan.move_tuple rfl rfl ?_
  refine Plan.extract_agg rfl rfl rfl ?_
  refine Plan.extract_slice rfl rfl rfl ?_
  refine Plan.extract_int rfl rfl rfl ?_
  refine Plan.alloc h35 rfl FChainSteps.z61 PIn.nil fun b36 w36 hb36 h36 => ?_
  simp only [rngs, Nat.zero_add, Nat.reduceAdd, List.cons_append, List.nil_append] at h36
  refine Plan.storeA (f' := fun q => VU .u8 (x_27 q)) h36 0 rfl rfl rfl rfl (fun _ _ => rfl) FChainSteps.sz61 rfl fun w37 h37 => ?_
  simp only [List.cons_append, List.nil_append, List.set_cons_zero, List.set_cons_succ] at h37
  refine Plan.assign_slice rfl rfl ?_
  refine Plan.assign_int rfl rfl ?_
  refine Plan.nil ?_
  refine hK25 _ _ ?_; clear hK25
  refine W.seq_k fun K38 hK38 => ?_
  refine W.regionT [(0, true), (1, true), (2, true), (3, true), (4, false), (5, true), (6, true), (7, true), (8, true), (9, false), (10, false), (11, true), (12, true)] (by kernel_rfl) ?_
  refine Plan.loadA1 h37 5 rfl rfl rfl FChainSteps.agg61 ?_
  refine Plan.move_int rfl rfl ?_
  refine Plan.move_int rfl rfl ?_
  refine Plan.addI (a := ((max m3 (w64 (-(w64 (m3 + 1))))).tmod 33)) (b := ((max n_4 (w64 (-(w64 (n_4 + 1))))).tmod 32)) rfl rfl rfl (by omega) ?_
  obtain ⟨x_40, x_41, x_42, hr39, hR⟩ := hR
  refine Plan.call (vs := [AG [(32, fun q => VU .u8 (k1 q))], .int .i64 (((max m3 (w64 (-(w64 (m3 + 1))))).tmod 33) + ((max n_4 (w64 (-(w64 (n_4 + 1))))).tmod 32))]) rfl FChainSteps.call38 rfl (chain_Ahead_ok (iG0 := iG0 + 6) hG0 (iG1 := iG1 + 6) hG1 hr39 h37) ?_
  rintro _ w48 ⟨ay1_43, py1_44, ny1_45, cy1_46, Fy1_47, rfl, h48, hf48_0⟩
  try dsimp only at hf48_0
  obtain rfl := hf48_0.hl
  refine ⟨_, rfl, .inr ⟨rfl, ?_⟩⟩
  refine Plan.move_tuple rfl rfl ?_
  refine Plan.extract_agg rfl rfl rfl ?_
  refine Plan.extract_slice rfl rfl rfl ?_
  refine Plan.extract_int rfl rfl rfl ?_
  refine Plan.alloc h48 rfl FChainSteps.z61 PIn.nil fun b49 w49 hb49 h49 => ?_
  simp only [rngs, Nat.zero_add, Nat.reduceAdd, List.cons_append, List.nil_append] at h49
  refine Plan.storeA (f' := fun q => VU .u8 (x_40 q)) h49 0 rfl rfl rfl rfl (fun _ _ => rfl) FChainSteps.sz61 rfl fun w50 h50 => ?_
  simp only [List.cons_append, List.nil_append, List.set_cons_zero, List.set_cons_succ] at h50
  refine Plan.assign_slice rfl rfl ?_
  refine Plan.assign_int rfl rfl ?_
  refine Plan.nil ?_
  refine hK38 _ _ ?_; clear hK38
  refine W.seq_k fun K51 hK51 => ?_
  refine W.seq_k fun K84 hK84 => ?_
  obtain ⟨t95, hX96, hR096⟩ := hR
  refine W.cutN (fun e w => ∃ y_t95 : Bool, (t95 = y_t95) ∧ EnvHas e [(4, .pointer (some ⟨b6, 0, none⟩)), (5, .pointer (some ⟨b7, 0, none⟩)), (90, .bool y_t95)] ∧ St B w0 (⟨some b7, 0, 32, fun q => VU .u8 (s2 q), true⟩ :: ⟨some b6, 0, 32, fun q => VU .u8 (k1 q), true⟩ :: L) w) ?_ ?_
  ·
    replace hR := hX96
    refine W.regionT [(0, true), (1, true), (2, true), (3, true), (4, true), (5, true), (6, true), (7, true), (8, true), (9, true), (10, true), (11, true), (12, true), (13, true), (14, true), (15, true), (16, true), (17, true), (18, true), (19, true), (20, true), (21, true), (22, true), (23, true), (24, false), (25, true), (26, false), (27, true), (28, true)] (by kernel_rfl) ?_
    refine Plan.move_int rfl rfl ?_
    by_cases hc97 : x_16 ≠ 0
    ·
      replace hR := ifT hR hc97
      refine Plan.cmpV (a := (((x_16 : Nat) : Int) : Int)) (b := (0 : Int)) (p := x_16 ≠ 0) (v := true) rfl rfl rfl rfl icmp_neN (decide_eq_true hc97) ?_
      refine Plan.move_bool rfl rfl ?_
      refine Plan.passed rfl ?_
      refine Plan.passed rfl ?_
      refine Plan.pickTb rfl rfl rfl ?_
      refine Plan.move_bool rfl rfl ?_
      refine Plan.passed rfl ?_
      refine Plan.passed rfl ?_
      refine Plan.pickTb rfl rfl rfl ?_
      refine Plan.move_bool rfl rfl ?_
      refine Plan.passed rfl ?_
      refine Plan.passed rfl ?_
      refine Plan.passed rfl ?_
      refine Plan.pickTb rfl rfl rfl ?_
      refine Plan.move_bool rfl rfl ?_
      refine Plan.passed rfl ?_
      refine Plan.passed rfl ?_
      refine Plan.passed rfl ?_
      refine Plan.passed rfl ?_
      refine Plan.pickTb rfl rfl rfl ?_
      refine Plan.move_bool rfl rfl ?_
      refine Plan.passed rfl ?_
      refine Plan.passed rfl ?_
      refine Plan.passed rfl ?_
      refine Plan.passed rfl ?_
      refine Plan.passed rfl ?_
      refine Plan.passed rfl ?_
      refine Plan.pickTb rfl rfl rfl ?_
      refine Plan.nil ?_
      have h98 := St.pickT (C := [_, _, _, _, _, _, _, _]) h50 [6, 7] (by decide)
      simp only [pick, List.filterMap_cons, List.filterMap_nil, List.getElem?_cons_zero, List.getElem?_cons_succ, List.cons_append, List.nil_append] at h98
      exact ⟨true, hR, (EnvHas.cons rfl (EnvHas.cons rfl (EnvHas.cons rfl EnvHas.nil))), h98⟩
    ·
      replace hR := ifF hR hc97
      refine Plan.cmpV (a := (((x_16 : Nat) : Int) : Int)) (b := (0 : Int)) (p := x_16 ≠ 0) (v := false) rfl rfl rfl rfl icmp_neN (decide_eq_false hc97) ?_
      refine Plan.move_bool rfl rfl ?_
      refine Plan.move_int rfl rfl ?_
      by_cases hc99 : x_29 ≠ 0
      ·
        replace hR := ifT hR hc99
        refine Plan.cmpV (a := (((x_29 : Nat) : Int) : Int)) (b := (0 : Int)) (p := x_29 ≠ 0) (v := true) rfl rfl rfl rfl icmp_neN (decide_eq_true hc99) ?_
        refine Plan.pickFb rfl rfl rfl ?_
        refine Plan.move_bool rfl rfl ?_
        refine Plan.passed rfl ?_
        refine Plan.passed rfl ?_
        refine Plan.pickTb rfl rfl rfl ?_
        refine Plan.move_bool rfl rfl ?_
        refine Plan.passed rfl ?_
        refine Plan.passed rfl ?_
        refine Plan.passed rfl ?_
        refine Plan.pickTb rfl rfl rfl ?_
        refine Plan.move_bool rfl rfl ?_
        refine Plan.passed rfl ?_
        refine Plan.passed rfl ?_
        refine Plan.passed rfl ?_
        refine Plan.passed rfl ?_
        refine Plan.pickTb rfl rfl rfl ?_
        refine Plan.move_bool rfl rfl ?_
        refine Plan.passed rfl ?_
        refine Plan.passed rfl ?_
        refine Plan.passed rfl ?_
        refine Plan.passed rfl ?_
        refine Plan.passed rfl ?_
        refine Plan.passed rfl ?_
        refine Plan.pickTb rfl rfl rfl ?_
        refine Plan.nil ?_
        have h100 := St.pickT (C := [_, _, _, _, _, _, _, _]) h50 [6, 7] (by decide)
        simp only [pick, List.filterMap_cons, List.filterMap_nil, List.getElem?_cons_zero, List.getElem?_cons_succ, List.cons_append, List.nil_append] at h100
        exact ⟨true, hR, (EnvHas.cons rfl (EnvHas.cons rfl (EnvHas.cons rfl EnvHas.nil))), h100⟩
      ·
        replace hR := ifF hR hc99
        refine Plan.cmpV (a := (((x_29 : Nat) : Int) : Int)) (b := (0 : Int)) (p := x_29 ≠ 0) (v := false) rfl rfl rfl rfl icmp_neN (decide_eq_false hc99) ?_
        refine Plan.pickFb rfl rfl rfl ?_
        refine Plan.move_bool rfl rfl ?_
        refine Plan.move_int rfl rfl ?_
        by_cases hc101 : x_42 ≠ 0
        ·
          replace hR := ifT hR hc101
          refine Plan.cmpV (a := (((x_42 : Nat) : Int) : Int)) (b := (0 : Int)) (p := x_42 ≠ 0) (v := true) rfl rfl rfl rfl icmp_neN (decide_eq_true hc101) ?_
          refine Plan.pickFb rfl rfl rfl ?_
          refine Plan.move_bool rfl rfl ?_
          refine Plan.passed rfl ?_
          refine Plan.passed rfl ?_
          refine Plan.passed rfl ?_
          refine Plan.pickTb rfl rfl rfl ?_
          refine Plan.move_bool rfl rfl ?_
          refine Plan.passed rfl ?_
          refine Plan.passed rfl ?_
          refine Plan.passed rfl ?_
          refine Plan.passed rfl ?_
          refine Plan.pickTb rfl rfl rfl ?_
          refine Plan.move_bool rfl rfl ?_
          refine Plan.passed rfl ?_
          refine Plan.passed rfl ?_
          refine Plan.passed rfl ?_
          refine Plan.passed rfl ?_
          refine Plan.passed rfl ?_
          refine Plan.passed rfl ?_
          refine Plan.pickTb rfl rfl rfl ?_
          refine Plan.nil ?_
          have h102 := St.pickT (C := [_, _, _, _, _, _, _, _]) h50 [6, 7] (by decide)
          simp only [pick, List.filterMap_cons, List.filterMap_nil, List.getElem?_cons_zero, List.getElem?_cons_succ, List.cons_append, List.nil_append] at h102
          exact ⟨true, hR, (EnvHas.cons rfl (EnvHas.cons rfl (EnvHas.cons rfl EnvHas.nil))), h102⟩
        ·
          replace hR := ifF hR hc101
          refine Plan.cmpV (a := (((x_42 : Nat) : Int) : Int)) (b := (0 : Int)) (p := x_42 ≠ 0) (v := false) rfl rfl rfl rfl icmp_neN (decide_eq_false hc101) ?_
          refine Plan.pickFb rfl rfl rfl ?_
          refine Plan.move_bool rfl rfl ?_
          refine Plan.loadA1 h50 2 rfl rfl rfl FChainSteps.agg61 ?_
          refine Plan.loadA1 h50 0 rfl rfl rfl FChainSteps.agg61 ?_
          by_cases hc103 : (eqB 32 x_27 x_40) = true
          ·
            replace hR := ifT hR hc103
            refine Plan.neArrV (b := true) FChainSteps.arrI61 rfl rfl rfl hc103 ?_
            refine Plan.pickFb rfl rfl rfl ?_
            refine Plan.move_bool rfl rfl ?_
            refine Plan.move_slice rfl rfl ?_
            refine Plan.len FChainSteps.isl62 rfl rfl ?_
            refine Plan.move_int rfl rfl ?_
            by_cases hc104 : ((x_15.length : Nat) : Int) ≠ ((max m3 (w64 (-(w64 (m3 + 1))))).tmod 33)
            ·
              replace hR := ifT hR hc104
              refine Plan.cmpV (a := (((x_15.length : Nat) : Int) : Int)) (b := (((max m3 (w64 (-(w64 (m3 + 1))))).tmod 33) : Int)) (p := ((x_15.length : Nat) : Int) ≠ ((max m3 (w64 (-(w64 (m3 + 1))))).tmod 33)) (v := true) rfl rfl rfl rfl icmp_ne (decide_eq_true hc104) ?_
              refine Plan.pickFb rfl rfl rfl ?_
              refine Plan.move_bool rfl rfl ?_
              refine Plan.passed rfl ?_
              refine Plan.passed rfl ?_
              refine Plan.passed rfl ?_
              refine Plan.passed rfl ?_
              refine Plan.passed rfl ?_
              refine Plan.passed rfl ?_
              refine Plan.pickTb rfl rfl rfl ?_
              refine Plan.nil ?_
              have h105 := St.pickT (C := [_, _, _, _, _, _, _, _]) h50 [6, 7] (by decide)
              simp only [pick, List.filterMap_cons, List.filterMap_nil, List.getElem?_cons_zero, List.getElem?_cons_succ, List.cons_append, List.nil_append] at h105
              exact ⟨true, hR, (EnvHas.cons rfl (EnvHas.cons rfl (EnvHas.cons rfl EnvHas.nil))), h105⟩
            ·
              replace hR := ifF hR hc104
              refine Plan.cmpV (a := (((x_15.length : Nat) : Int) : Int)) (b := (((max m3 (w64 (-(w64 (m3 + 1))))).tmod 33) : Int)) (p := ((x_15.length : Nat) : Int) ≠ ((max m3 (w64 (-(w64 (m3 + 1))))).tmod 33)) (v := false) rfl rfl rfl rfl icmp_ne (decide_eq_false hc104) ?_
              refine Plan.pickFb rfl rfl rfl ?_
              refine Plan.move_bool rfl rfl ?_
              refine Plan.move_slice rfl rfl ?_
              refine Plan.move_slice rfl rfl ?_
              obtain ⟨hc107, hR⟩ := hR
              refine Plan.appendLO (D := D61) (X := x_15) (Y := x_28) (sz := 32) h50 () (fun _ => 0#8) 5 hf22_0 rfl FChainSteps.el62 rfl FChainSteps.slu62 rfl rfl rfl rfl (LO.lvf D61_flat hf35_0 3 rfl) (fun _ _ h => h) hc107.1 hc107.2 (fun _ => EffO.keep (PIn.cons 0 rfl (PIn.cons 2 rfl PIn.nil))) fun a106 pb106 cap106 F106 w106 ho106 h106 => ?_
              simp only [List.cons_append, List.nil_append, List.set_cons_zero, List.set_cons_succ] at h106
              replace ho106 : LO D61 [] a106 pb106 (x_15 ++ x_28).length cap106 F106 (x_15 ++ x_28) := ho106.re (fun _ _ h => h)
              refine Plan.move_slice rfl rfl ?_
              obtain ⟨x_109, hr108, hR⟩ := hR
              refine Plan.call (vs := [.slice a106 ((x_15 ++ x_28).length) cap106, .slice ay1_43 x_41.length cy1_46]) rfl FChainSteps.call39 rfl (lethelaw13_sameKeys_ok (by exact (LO.lvf D61_flat ho106 5 rfl)) (by exact (LO.lvf D61_flat hf48_0 1 rfl)) hr108 h106) ?_
              rintro _ w110 ⟨rfl, h110⟩
              refine ⟨_, rfl, .inl ⟨PIn.keep (PIn.cons 0 rfl (PIn.cons 2 rfl PIn.nil)) h110, ?_⟩⟩
              refine Plan.not rfl rfl ?_
              refine Plan.pickFb rfl rfl rfl ?_
              refine Plan.nil ?_
              have h111 := St.pickT (C := [_, _, _, _, _, _, _, _]) h110 [6, 7] (by decide)
              simp only [pick, List.filterMap_cons, List.filterMap_nil, List.getElem?_cons_zero, List.getElem?_cons_succ, List.cons_append, List.nil_append] at h111
              exact ⟨(!x_109), hR, (EnvHas.cons rfl (EnvHas.cons rfl (EnvHas.cons rfl EnvHas.nil))), h111⟩
          ·
            replace hR := ifF hR hc103
            refine Plan.neArrV (b := false) FChainSteps.arrI61 rfl rfl rfl (Bool.eq_false_iff.2 hc103) ?_
            refine Plan.pickFb rfl rfl rfl ?_
            refine Plan.move_bool rfl rfl ?_
            refine Plan.passed rfl ?_
            refine Plan.passed rfl ?_
            refine Plan.passed rfl ?_
            refine Plan.passed rfl ?_
            refine Plan.pickTb rfl rfl rfl ?_
            refine Plan.move_bool rfl rfl ?_
            refine Plan.passed rfl ?_
            refine Plan.passed rfl ?_
            refine Plan.passed rfl ?_
            refine Plan.passed rfl ?_
            refine Plan.passed rfl ?_
            refine Plan.passed rfl ?_
            refine Plan.pickTb rfl rfl rfl ?_
            refine Plan.nil ?_
            have h112 := St.pickT (C := [_, _, _, _, _, _, _, _]) h50 [6, 7] (by decide)
            simp only [pick, List.filterMap_cons, List.filterMap_nil, List.getElem?_cons_zero, List.getElem?_cons_succ, List.cons_append, List.nil_append] at h112
            exact ⟨true, hR, (EnvHas.cons rfl (EnvHas.cons rfl (EnvHas.cons rfl EnvHas.nil))), h112⟩
  ·
    rintro ev113 wl113 ⟨y_t95, hy113_0, he113, h113⟩
    subst hy113_0
    obtain ⟨ev113, rfl⟩ := he113.open
    replace hR := hR096
    refine hK84 _ _ ?_; clear hK84
    by_cases hc114 : t95 = true
    ·
      replace hR := ifT hR hc114
      refine W.condT (congrArg Value.bool hc114) ?_
      refine W.seq_k fun K115 hK115 => ?_
      refine W.regionT [(0, true)] (by kernel_rfl) ?_
      refine Plan.assign_bool rfl rfl ?_
      refine Plan.nil ?_
      refine hK115 _ _ ?_; clear hK115
      refine W.ret (thenR_ret (finR_ret ?_))
      have h116 := St.pickT (C := [_, _]) h113 [] (by decide)
      simp only [pick, List.filterMap_cons, List.filterMap_nil, List.getElem?_cons_zero, List.getElem?_cons_succ, List.cons_append, List.nil_append] at h116
      subst r
      refine RetOk.mk (.tmp_bool rfl .nil) ?_
      exact ⟨rfl, h116⟩
    ·
      replace hR := ifF hR hc114
      refine W.condF (congrArg Value.bool (Bool.eq_false_iff.2 hc114)) ?_
      refine W.skip ?_
      refine hK51 _ _ ?_; clear hK51
      refine W.seq_k fun K117 hK117 => ?_
      refine W.regionT [(0, true), (1, false), (2, true), (3, true), (4, true), (5, false), (6, false), (7, false), (8, false)] (by kernel_rfl) ?_
      refine Plan.loadA1 h113 1 rfl rfl rfl FChainSteps.agg61 ?_
      obtain ⟨x_119, x_120, hr118, hR⟩ := hR
      refine Plan.call (vs := [AG [(32, fun q => VU .u8 (k1 q))]]) rfl FChainSteps.call48 rfl (chain_Step_ok (iG0 := iG0 + 2) hG0 (iG1 := iG1 + 2) hG1 hr118 h113) ?_
      rintro _ w121 ⟨rfl, h121⟩
      refine ⟨_, rfl, .inr ⟨rfl, ?_⟩⟩
      refine Plan.move_tuple rfl rfl ?_
      refine Plan.extract_agg rfl rfl rfl ?_
      refine Plan.extract_agg rfl rfl rfl ?_
      refine Plan.alloc h121 rfl FChainSteps.z61 PIn.nil fun b122 w122 hb122 h122 => ?_
      simp only [rngs, Nat.zero_add, Nat.reduceAdd, List.cons_append, List.nil_append] at h122
      refine Plan.alloc h122 rfl FChainSteps.z61 PIn.nil fun b123 w123 hb123 h123 => ?_
      simp only [rngs, Nat.zero_add, Nat.reduceAdd, List.cons_append, List.nil_append] at h123
      refine Plan.storeA (f' := fun q => VU .u8 (x_119 q)) h123 1 rfl rfl rfl rfl (fun _ _ => rfl) FChainSteps.sz61 rfl fun w124 h124 => ?_
      simp only [List.cons_append, List.nil_append, List.set_cons_zero, List.set_cons_succ] at h124
      refine Plan.storeA (f' := fun q => VU .u8 (x_120 q)) h124 0 rfl rfl rfl rfl (fun _ _ => rfl) FChainSteps.sz61 rfl fun w125 h125 => ?_
      simp only [List.cons_append, List.nil_append, List.set_cons_zero, List.set_cons_succ] at h125
      refine Plan.nil ?_
      refine hK117 _ _ ?_; clear hK117
      refine W.seq_k fun K126 hK126 => ?_
      refine W.regionT [(0, true), (1, false), (2, true), (3, true), (4, true), (5, true), (6, false), (7, false), (8, true), (9, true)] (by kernel_rfl) ?_
      refine Plan.loadA1 h125 3 rfl rfl rfl FChainSteps.agg61 ?_
      obtain ⟨x_128, x_129, x_130, hr127, hR⟩ := hR
      refine Plan.call (vs := [AG [(32, fun q => VU .u8 (k1 q))], VN 1]) rfl FChainSteps.call38 rfl (chain_Ahead_ok (iG0 := iG0 + 4) hG0 (iG1 := iG1 + 4) hG1 hr127 h125) ?_
      rintro _ w136 ⟨ay1_131, py1_132, ny1_133, cy1_134, Fy1_135, rfl, h136, hf136_0⟩
      try dsimp only at hf136_0
      obtain rfl := hf136_0.hl
      refine ⟨_, rfl, .inr ⟨rfl, ?_⟩⟩
      refine Plan.move_tuple rfl rfl ?_
      refine Plan.extract_agg rfl rfl rfl ?_
      refine Plan.extract_slice rfl rfl rfl ?_
      refine Plan.extract_int rfl rfl rfl ?_
      refine Plan.alloc h136 rfl FChainSteps.z61 PIn.nil fun b137 w137 hb137 h137 => ?_
      simp only [rngs, Nat.zero_add, Nat.reduceAdd, List.cons_append, List.nil_append] at h137
      refine Plan.storeA (f' := fun q => VU .u8 (x_128 q)) h137 0 rfl rfl rfl rfl (fun _ _ => rfl) FChainSteps.sz61 rfl fun w138 h138 => ?_
      simp only [List.cons_append, List.nil_append, List.set_cons_zero, List.set_cons_succ] at h138
      refine Plan.assign_slice rfl rfl ?_
      refine Plan.assign_int rfl rfl ?_
      refine Plan.nil ?_
      refine hK126 _ _ ?_; clear hK126
      refine W.seq_k fun K139 hK139 => ?_
      refine W.seq_k fun K192 hK192 => ?_
      obtain ⟨t213, hX214, hR0214⟩ := hR
      refine W.cutN (fun e w => ∃ y_t213 : Bool, (t213 = y_t213) ∧ EnvHas e [(4, .pointer (some ⟨b6, 0, none⟩)), (5, .pointer (some ⟨b7, 0, none⟩)), (136, .bool y_t213)] ∧ St B w0 (⟨some b7, 0, 32, fun q => VU .u8 (s2 q), true⟩ :: ⟨some b6, 0, 32, fun q => VU .u8 (k1 q), true⟩ :: L) w) ?_ ?_
      ·
        replace hR := hX214
        refine W.regionD FChainSteps.mixed [(0, true), (1, true), (2, true), (3, true), (4, true), (5, true), (6, true), (7, true), (8, true), (9, true), (10, true), (11, true), (12, true), (13, true), (14, true), (15, true), (16, true), (17, true), (18, true), (19, true), (20, true), (21, true), (22, false), (23, false), (24, false), (25, true), (26, true), (27, true), (28, true), (29, true), (30, false), (31, false), (32, false), (33, true), (34, true)] (by kernel_rfl) ?_
        have h215 := h138.drew
        refine Plan.move_int rfl rfl ?_
        by_cases hc216 : x_130 ≠ 0
        ·
          replace hR := ifT hR hc216
          refine Plan.cmpV (a := (((x_130 : Nat) : Int) : Int)) (b := (0 : Int)) (p := x_130 ≠ 0) (v := true) rfl rfl rfl rfl icmp_neN (decide_eq_true hc216) ?_
          refine Plan.move_bool rfl rfl ?_
          refine Plan.passed rfl ?_
          refine Plan.passed rfl ?_
          refine Plan.passed rfl ?_
          refine Plan.pickTb rfl rfl rfl ?_
          refine Plan.move_bool rfl rfl ?_
          refine Plan.passed rfl ?_
          refine Plan.passed rfl ?_
          refine Plan.passed rfl ?_
          refine Plan.pickTb rfl rfl rfl ?_
          refine Plan.move_bool rfl rfl ?_
          refine Plan.passed rfl ?_
          refine Plan.passed rfl ?_
          refine Plan.passed rfl ?_
          refine Plan.passed rfl ?_
          refine Plan.passed rfl ?_
          refine Plan.pickTb rfl rfl rfl ?_
          refine Plan.move_bool rfl rfl ?_
          refine Plan.passed rfl ?_
          refine Plan.passed rfl ?_
          refine Plan.passed rfl ?_
          refine Plan.passed rfl ?_
          refine Plan.passed rfl ?_
          refine Plan.passed rfl ?_
          refine Plan.pickTb rfl rfl rfl ?_
          refine Plan.move_bool rfl rfl ?_
          refine Plan.passed rfl ?_
          refine Plan.passed rfl ?_
          refine Plan.passed rfl ?_
          refine Plan.passed rfl ?_
          refine Plan.passed rfl ?_
          refine Plan.passed rfl ?_
          refine Plan.pickTb rfl rfl rfl ?_
          refine Plan.nil ?_
          have h217 := St.pickT (C := [_, _, _, _, _, _]) h215 [4, 5] (by decide)
          simp only [pick, List.filterMap_cons, List.filterMap_nil, List.getElem?_cons_zero, List.getElem?_cons_succ, List.cons_append, List.nil_append] at h217
          exact ⟨true, hR, (EnvHas.cons rfl (EnvHas.cons rfl (EnvHas.cons rfl EnvHas.nil))), h217⟩
        ·
          replace hR := ifF hR hc216
          refine Plan.cmpV (a := (((x_130 : Nat) : Int) : Int)) (b := (0 : Int)) (p := x_130 ≠ 0) (v := false) rfl rfl rfl rfl icmp_neN (decide_eq_false hc216) ?_
          refine Plan.move_bool rfl rfl ?_
          refine Plan.loadA1 h215 0 rfl rfl rfl FChainSteps.agg61 ?_
          refine Plan.loadA1 h215 3 rfl rfl rfl FChainSteps.agg61 ?_
          by_cases hc218 : (eqB 32 x_128 x_119) = true
          ·
            replace hR := ifT hR hc218
            refine Plan.neArrV (b := true) FChainSteps.arrI61 rfl rfl rfl hc218 ?_
            refine Plan.pickFb rfl rfl rfl ?_
            refine Plan.move_bool rfl rfl ?_
            refine Plan.move_slice rfl rfl ?_
            refine Plan.len FChainSteps.isl62 rfl rfl ?_
            by_cases hc219 : x_129.length ≠ 1
            ·
              replace hR := ifT hR hc219
              refine Plan.cmpV (a := (((x_129.length : Nat) : Int) : Int)) (b := (1 : Int)) (p := x_129.length ≠ 1) (v := true) rfl rfl rfl rfl icmp_neN (decide_eq_true hc219) ?_
              refine Plan.pickFb rfl rfl rfl ?_
              refine Plan.move_bool rfl rfl ?_
              refine Plan.passed rfl ?_
              refine Plan.passed rfl ?_
              refine Plan.passed rfl ?_
              refine Plan.passed rfl ?_
              refine Plan.passed rfl ?_
              refine Plan.pickTb rfl rfl rfl ?_
              refine Plan.move_bool rfl rfl ?_
              refine Plan.passed rfl ?_
              refine Plan.passed rfl ?_
              refine Plan.passed rfl ?_
              refine Plan.passed rfl ?_
              refine Plan.passed rfl ?_
              refine Plan.passed rfl ?_
              refine Plan.pickTb rfl rfl rfl ?_
              refine Plan.move_bool rfl rfl ?_
              refine Plan.passed rfl ?_
              refine Plan.passed rfl ?_
              refine Plan.passed rfl ?_
              refine Plan.passed rfl ?_
              refine Plan.passed rfl ?_
              refine Plan.passed rfl ?_
              refine Plan.pickTb rfl rfl rfl ?_
              refine Plan.nil ?_
              have h220 := St.pickT (C := [_, _, _, _, _, _]) h215 [4, 5] (by decide)
              simp only [pick, List.filterMap_cons, List.filterMap_nil, List.getElem?_cons_zero, List.getElem?_cons_succ, List.cons_append, List.nil_append] at h220
              exact ⟨true, hR, (EnvHas.cons rfl (EnvHas.cons rfl (EnvHas.cons rfl EnvHas.nil))), h220⟩
            ·
              replace hR := ifF hR hc219
              refine Plan.cmpV (a := (((x_129.length : Nat) : Int) : Int)) (b := (1 : Int)) (p := x_129.length ≠ 1) (v := false) rfl rfl rfl rfl icmp_neN (decide_eq_false hc219) ?_
              refine Plan.pickFb rfl rfl rfl ?_
              refine Plan.move_bool rfl rfl ?_
              refine Plan.move_slice rfl rfl ?_
              obtain ⟨hc221, hR⟩ := hR
              refine Plan.idxLVS (D := D61) (j := 0) h215 (LO.lvf D61_flat hf136_0 1 rfl) FChainSteps.sl62 rfl rfl rfl hc221 ?_
              refine Plan.loadLV (D := D61) (X := x_129) (j := 0) (sz := 32) h215 (fun _ => 0#8) (LO.lvf D61_flat hf136_0 1 rfl) rfl rfl hc221 rfl FChainSteps.agg61 fun b222 r222 hs222 hr222 => ?_
              refine Plan.loadA1 h215 2 rfl rfl rfl FChainSteps.agg61 ?_
              by_cases hc223 : (eqB 32 (x_129.getD 0 (fun _ => 0#8)) x_120) = true
              ·
                replace hR := ifT hR hc223
                refine Plan.neArrV (b := true) FChainSteps.arrI61 rfl rfl rfl hc223 ?_
                refine Plan.pickFb rfl rfl rfl ?_
                refine Plan.move_bool rfl rfl ?_
                refine Plan.loadA1 h215 2 rfl rfl rfl FChainSteps.agg61 ?_
                refine Plan.slArrO (lo := 0) (hi := 32) (m := 32) (c := 32) (o' := 0) FChainSteps.arr61 rfl rfl rfl rfl (by omega) (by omega) (by omega) (by omega) ?_
                refine Plan.buildSlice h215 (ps := [(1, fun q => VU .u8 (lit ([1#8] : List Byte) q))]) FChainSteps.slu22 FChainSteps.sz5 FChainSteps.zv5 (by decide) (by decide) rfl rfl (by kernel_rfl) (EffO.keep (PIn.cons 2 rfl (PIn.cons 2 rfl (PIn.cons 1 hr222 (PIn.cons 3 rfl (PIn.cons 0 rfl PIn.nil)))))) fun b224 w224 hb224 h224 => ?_
                simp only [rngs, List.cons_append, List.nil_append] at h224
                have ho224 : Ow (some ⟨b224, 0, none⟩) (some b224) ([1#8] : List Byte).length 1 (lit ([1#8] : List Byte)) ([1#8] : List Byte) := ⟨.inr ⟨b224, rfl, rfl⟩, Nat.le_refl _, rfl, fun q _ => rfl⟩
                refine Plan.buildSlice h224 (ps := [(1, fun i => .slice ((fun i => ([some ⟨b224, 0, none⟩] : List (Option Addr)).getD i none) i) ((fun i => ([([1#8] : List Byte).length] : List Nat).getD i 0) i) ((fun i => ([1] : List Nat).getD i 0) i))]) FChainSteps.slu75 FChainSteps.sz22 FChainSteps.zv22 (by decide) (by decide) rfl rfl rfl (EffO.keep (PIn.cons 3 rfl (PIn.cons 3 rfl (PIn.cons 2 hr222 (PIn.cons 4 rfl (PIn.cons 1 rfl PIn.nil)))))) fun b226 w226 hb226 h226 => ?_
                simp only [rngs, List.cons_append, List.nil_append] at h226
                obtain ⟨x_228, hr227, hR⟩ := hR
                refine Plan.call (vs := [.slice (some ⟨b6, 0, none⟩) 32 32, .slice (some ⟨b226, 0, none⟩) 1 1]) rfl FChainSteps.call36 rfl (kdf_Mac_ok (iG0 := iG0 + 8) hG0 (iG1 := iG1 + 8) hG1 (by exact (Bx.arr0 (n := 32) (cc := 32) 7 rfl (by omega) (by omega))) (by exact (Bss.of 0 rfl rfl (fun i hi => match i, hi with | 0, _ => ⟨_, (ho224.bx 1 rfl)⟩ | k + 1, hk => absurd hk (by omega)))) hr227 h226) ?_
                rintro _ w229 ⟨rfl, h229⟩
                refine ⟨_, rfl, .inl ⟨PIn.keep (PIn.cons 4 rfl (PIn.cons 4 rfl (PIn.cons 3 hr222 (PIn.cons 5 rfl (PIn.cons 2 rfl PIn.nil))))) h229, ?_⟩⟩
                by_cases hc230 : (eqB 32 x_120 x_228) = true
                ·
                  replace hR := ifT hR hc230
                  refine Plan.neArrV (b := true) FChainSteps.arrI61 rfl rfl rfl hc230 ?_
                  refine Plan.pickFb rfl rfl rfl ?_
                  refine Plan.move_bool rfl rfl ?_
                  refine Plan.loadA1 h229 5 rfl rfl rfl FChainSteps.agg61 ?_
                  refine Plan.slArrO (lo := 0) (hi := 32) (m := 32) (c := 32) (o' := 0) FChainSteps.arr61 rfl rfl rfl rfl (by omega) (by omega) (by omega) (by omega) ?_
                  refine Plan.buildSlice h229 (ps := [(1, fun q => VU .u8 (lit ([2#8] : List Byte) q))]) FChainSteps.slu22 FChainSteps.sz5 FChainSteps.zv5 (by decide) (by decide) rfl rfl (by kernel_rfl) (EffO.keep (PIn.cons 5 rfl (PIn.cons 4 rfl (PIn.cons 4 rfl (PIn.cons 3 hr222 (PIn.cons 5 rfl (PIn.cons 2 rfl PIn.nil))))))) fun b231 w231 hb231 h231 => ?_
                  simp only [rngs, List.cons_append, List.nil_append] at h231
                  have ho231 : Ow (some ⟨b231, 0, none⟩) (some b231) ([2#8] : List Byte).length 1 (lit ([2#8] : List Byte)) ([2#8] : List Byte) := ⟨.inr ⟨b231, rfl, rfl⟩, Nat.le_refl _, rfl, fun q _ => rfl⟩
                  refine Plan.buildSlice h231 (ps := [(1, fun i => .slice ((fun i => ([some ⟨b231, 0, none⟩] : List (Option Addr)).getD i none) i) ((fun i => ([([2#8] : List Byte).length] : List Nat).getD i 0) i) ((fun i => ([1] : List Nat).getD i 0) i))]) FChainSteps.slu75 FChainSteps.sz22 FChainSteps.zv22 (by decide) (by decide) rfl rfl rfl (EffO.keep (PIn.cons 6 rfl (PIn.cons 5 rfl (PIn.cons 5 rfl (PIn.cons 4 hr222 (PIn.cons 6 rfl (PIn.cons 3 rfl PIn.nil))))))) fun b233 w233 hb233 h233 => ?_
                  simp only [rngs, List.cons_append, List.nil_append] at h233
                  obtain ⟨x_235, hr234, hR⟩ := hR
                  refine Plan.call (vs := [.slice (some ⟨b6, 0, none⟩) 32 32, .slice (some ⟨b233, 0, none⟩) 1 1]) rfl FChainSteps.call36 rfl (kdf_Mac_ok (iG0 := iG0 + 10) hG0 (iG1 := iG1 + 10) hG1 (by exact (Bx.arr0 (n := 32) (cc := 32) 9 rfl (by omega) (by omega))) (by exact (Bss.of 0 rfl rfl (fun i hi => match i, hi with | 0, _ => ⟨_, (ho231.bx 1 rfl)⟩ | k + 1, hk => absurd hk (by omega)))) hr234 h233) ?_
                  rintro _ w236 ⟨rfl, h236⟩
                  refine ⟨_, rfl, .inl ⟨PIn.keep (PIn.cons 7 rfl (PIn.cons 6 rfl (PIn.cons 6 rfl (PIn.cons 5 hr222 (PIn.cons 7 rfl (PIn.cons 4 rfl PIn.nil)))))) h236, ?_⟩⟩
                  refine Plan.neArrV (b := (eqB 32 x_119 x_235)) FChainSteps.arrI61 rfl rfl rfl rfl ?_
                  refine Plan.pickFb rfl rfl rfl ?_
                  refine Plan.nil ?_
                  have h237 := St.pickT (C := [_, _, _, _, _, _, _, _, _, _]) h236 [8, 9] (by decide)
                  simp only [pick, List.filterMap_cons, List.filterMap_nil, List.getElem?_cons_zero, List.getElem?_cons_succ, List.cons_append, List.nil_append] at h237
                  exact ⟨(!(eqB 32 x_119 x_235)), hR, (EnvHas.cons rfl (EnvHas.cons rfl (EnvHas.cons rfl EnvHas.nil))), h237⟩
                ·
                  replace hR := ifF hR hc230
                  refine Plan.neArrV (b := false) FChainSteps.arrI61 rfl rfl rfl (Bool.eq_false_iff.2 hc230) ?_
                  refine Plan.pickFb rfl rfl rfl ?_
                  refine Plan.move_bool rfl rfl ?_
                  refine Plan.passed rfl ?_
                  refine Plan.passed rfl ?_
                  refine Plan.passed rfl ?_
                  refine Plan.passed rfl ?_
                  refine Plan.passed rfl ?_
                  refine Plan.passed rfl ?_
                  refine Plan.pickTb rfl rfl rfl ?_
                  refine Plan.nil ?_
                  have h238 := St.pickT (C := [_, _, _, _, _, _, _, _]) h229 [6, 7] (by decide)
                  simp only [pick, List.filterMap_cons, List.filterMap_nil, List.getElem?_cons_zero, List.getElem?_cons_succ, List.cons_append, List.nil_append] at h238
                  exact ⟨true, hR, (EnvHas.cons rfl (EnvHas.cons rfl (EnvHas.cons rfl EnvHas.nil))), h238⟩
              ·
                replace hR := ifF hR hc223
                refine Plan.neArrV (b := false) FChainSteps.arrI61 rfl rfl rfl (Bool.eq_false_iff.2 hc223) ?_
                refine Plan.pickFb rfl rfl rfl ?_
                refine Plan.move_bool rfl rfl ?_
                refine Plan.passed rfl ?_
                refine Plan.passed rfl ?_
                refine Plan.passed rfl ?_
                refine Plan.passed rfl ?_
                refine Plan.passed rfl ?_
                refine Plan.passed rfl ?_
                refine Plan.pickTb rfl rfl rfl ?_
                refine Plan.move_bool rfl rfl ?_
                refine Plan.passed rfl ?_
                refine Plan.passed rfl ?_
                refine Plan.passed rfl ?_
                refine Plan.passed rfl ?_
                refine Plan.passed rfl ?_
                refine Plan.passed rfl ?_
                refine Plan.pickTb rfl rfl rfl ?_
                refine Plan.nil ?_
                have h239 := St.pickT (C := [_, _, _, _, _, _]) h215 [4, 5] (by decide)
                simp only [pick, List.filterMap_cons, List.filterMap_nil, List.getElem?_cons_zero, List.getElem?_cons_succ, List.cons_append, List.nil_append] at h239
                exact ⟨true, hR, (EnvHas.cons rfl (EnvHas.cons rfl (EnvHas.cons rfl EnvHas.nil))), h239⟩
          ·
            replace hR := ifF hR hc218
            refine Plan.neArrV (b := false) FChainSteps.arrI61 rfl rfl rfl (Bool.eq_false_iff.2 hc218) ?_
            refine Plan.pickFb rfl rfl rfl ?_
            refine Plan.move_bool rfl rfl ?_
            refine Plan.passed rfl ?_
            refine Plan.passed rfl ?_
            refine Plan.passed rfl ?_
            refine Plan.pickTb rfl rfl rfl ?_
            refine Plan.move_bool rfl rfl ?_
            refine Plan.passed rfl ?_
            refine Plan.passed rfl ?_
            refine Plan.passed rfl ?_
            refine Plan.passed rfl ?_
            refine Plan.passed rfl ?_
            refine Plan.pickTb rfl rfl rfl ?_
            refine Plan.move_bool rfl rfl ?_
            refine Plan.passed rfl ?_
            refine Plan.passed rfl ?_
            refine Plan.passed rfl ?_
            refine Plan.passed rfl ?_
            refine Plan.passed rfl ?_
            refine Plan.passed rfl ?_
            refine Plan.pickTb rfl rfl rfl ?_
            refine Plan.move_bool rfl rfl ?_
            refine Plan.passed rfl ?_
            refine Plan.passed rfl ?_
            refine Plan.passed rfl ?_
            refine Plan.passed rfl ?_
            refine Plan.passed rfl ?_
            refine Plan.passed rfl ?_
            refine Plan.pickTb rfl rfl rfl ?_
            refine Plan.nil ?_
            have h240 := St.pickT (C := [_, _, _, _, _, _]) h215 [4, 5] (by decide)
            simp only [pick, List.filterMap_cons, List.filterMap_nil, List.getElem?_cons_zero, List.getElem?_cons_succ, List.cons_append, List.nil_append] at h240
            exact ⟨true, hR, (EnvHas.cons rfl (EnvHas.cons rfl (EnvHas.cons rfl EnvHas.nil))), h240⟩
      ·
        rintro ev241 wl241 ⟨y_t213, hy241_0, he241, h241⟩
        subst hy241_0
        obtain ⟨ev241, rfl⟩ := he241.open
        replace hR := hR0214
        refine hK192 _ _ ?_; clear hK192
        by_cases hc242 : t213 = true
        ·
          replace hR := ifT hR hc242
          refine W.condT (congrArg Value.bool hc242) ?_
          refine W.seq_k fun K243 hK243 => ?_
          refine W.regionT [(0, true)] (by kernel_rfl) ?_
          refine Plan.assign_bool rfl rfl ?_
          refine Plan.nil ?_
          refine hK243 _ _ ?_; clear hK243
          refine W.ret (thenR_ret (finR_ret ?_))
          have h244 := St.pickT (C := [_, _]) h241 [] (by decide)
          simp only [pick, List.filterMap_cons, List.filterMap_nil, List.getElem?_cons_zero, List.getElem?_cons_succ, List.cons_append, List.nil_append] at h244
          subst r
          refine RetOk.mk (.tmp_bool rfl .nil) ?_
          exact ⟨rfl, h244⟩
        ·
          replace hR := ifF hR hc242
          refine W.condF (congrArg Value.bool (Bool.eq_false_iff.2 hc242)) ?_
          refine W.skip ?_
          refine hK139 _ _ ?_; clear hK139
          refine W.seq_k fun K245 hK245 => ?_
          refine W.regionT [(0, true), (1, true), (2, false), (3, true), (4, true), (5, true), (6, false), (7, false), (8, false), (9, false)] (by kernel_rfl) ?_
          refine Plan.loadA1 h241 1 rfl rfl rfl FChainSteps.agg61 ?_
          refine Plan.loadA1 h241 0 rfl rfl rfl FChainSteps.agg61 ?_
          obtain ⟨x_247, x_248, hr246, hR⟩ := hR
          refine Plan.call (vs := [AG [(32, fun q => VU .u8 (k1 q))], AG [(32, fun q => VU .u8 (s2 q))]]) rfl FChainSteps.call46 rfl (chain_Root_ok (iG0 := iG0 + 2) hG0 (iG1 := iG1 + 2) hG1 hr246 h241) ?_
          rintro _ w249 ⟨rfl, h249⟩
          refine ⟨_, rfl, .inr ⟨rfl, ?_⟩⟩
          refine Plan.move_tuple rfl rfl ?_
          refine Plan.extract_agg rfl rfl rfl ?_
          refine Plan.extract_agg rfl rfl rfl ?_
          refine Plan.alloc h249 rfl FChainSteps.z61 PIn.nil fun b250 w250 hb250 h250 => ?_
          simp only [rngs, Nat.zero_add, Nat.reduceAdd, List.cons_append, List.nil_append] at h250
          refine Plan.alloc h250 rfl FChainSteps.z61 PIn.nil fun b251 w251 hb251 h251 => ?_
          simp only [rngs, Nat.zero_add, Nat.reduceAdd, List.cons_append, List.nil_append] at h251
          refine Plan.storeA (f' := fun q => VU .u8 (x_247 q)) h251 1 rfl rfl rfl rfl (fun _ _ => rfl) FChainSteps.sz61 rfl fun w252 h252 => ?_
          simp only [List.cons_append, List.nil_append, List.set_cons_zero, List.set_cons_succ] at h252
          refine Plan.storeA (f' := fun q => VU .u8 (x_248 q)) h252 0 rfl rfl rfl rfl (fun _ _ => rfl) FChainSteps.sz61 rfl fun w253 h253 => ?_
          simp only [List.cons_append, List.nil_append, List.set_cons_zero, List.set_cons_succ] at h253
          refine Plan.nil ?_
          refine hK245 _ _ ?_; clear hK245
          refine W.seq_k fun K254 hK254 => ?_
          refine W.regionD FChainSteps.mixed [(0, true), (1, true), (2, false), (3, false), (4, false), (5, true), (6, true), (7, true), (8, true), (9, true)] (by kernel_rfl) ?_
          have h255 := h253.drew
          refine Plan.slArrO (lo := 0) (hi := 32) (m := 32) (c := 32) (o' := 0) FChainSteps.arr61 rfl rfl rfl rfl (by omega) (by omega) (by omega) (by omega) ?_
          refine Plan.slArrO (lo := 0) (hi := 32) (m := 32) (c := 32) (o' := 0) FChainSteps.arr61 rfl rfl rfl rfl (by omega) (by omega) (by omega) (by omega) ?_
          refine Plan.constBytesO PIn.nil h255 (f := fun q => VU .u8 (lit ([108#8, 101#8, 116#8, 104#8, 101#8, 32#8, 114#8, 111#8, 111#8, 116#8] : List Byte) q)) FChainSteps.slu22 FChainSteps.u5 FChainSteps.sz5 FChainSteps.zv5 (by decide) (by decide) rfl (fun _ => rfl) (fun _ => rfl) rfl (by kernel_rfl) fun b256 w256 hb256 h256 => ?_
          obtain ⟨x_258, x_259, hr257, hR⟩ := hR
          refine Plan.call (vs := [.slice (some ⟨b6, 0, none⟩) 32 32, .slice (some ⟨b7, 0, none⟩) 32 32, .slice (some ⟨b256, 0, none⟩) 10 10, VN 64]) rfl FChainSteps.call42 rfl (kdf_Derive_ok (iG0 := iG0 + 5) hG0 (iG1 := iG1 + 5) hG1 (by exact (Bx.arr0 (n := 32) (cc := 32) 4 rfl (by omega) (by omega))) (by exact (Bx.arr0 (n := 32) (cc := 32) 3 rfl (by omega) (by omega))) (by exact (Bx.arr0 (n := 10) (cc := 10) 0 rfl (by omega) (by omega))) hr257 h256) ?_
          rintro _ w265 ⟨ay0_260, py0_261, ny0_262, cy0_263, Fy0_264, rfl, h265, hf265_0⟩
          try dsimp only at hf265_0
          obtain rfl := hf265_0.hl
          refine ⟨_, rfl, .inl ⟨PIn.keep PIn.nil h265, ?_⟩⟩
          refine Plan.move_tuple rfl rfl ?_
          refine Plan.extract_slice rfl rfl rfl ?_
          refine Plan.extract_int rfl rfl rfl ?_
          refine Plan.assign_slice rfl rfl ?_
          refine Plan.assign_int rfl rfl ?_
          refine Plan.nil ?_
          refine hK254 _ _ ?_; clear hK254
          refine W.seq_k fun K266 hK266 => ?_
          refine W.regionD FChainSteps.mixed [(0, true), (1, true), (2, true), (3, true), (4, true), (5, true), (6, true), (7, true), (8, true), (9, true), (10, true), (11, true), (12, true)] (by kernel_rfl) ?_
          have h267 := h265.drew
          refine Plan.move_int rfl rfl ?_
          by_cases hc268 : x_259 = 0
          ·
            replace hR := ifT hR hc268
            refine Plan.cmpV (a := (((x_259 : Nat) : Int) : Int)) (b := (0 : Int)) (p := x_259 = 0) (v := true) rfl rfl rfl rfl icmp_eqN (decide_eq_true hc268) ?_
            refine Plan.move_bool rfl rfl ?_
            refine Plan.move_slice rfl rfl ?_
            refine Plan.toStrV h267 (hf265_0.bx 0 rfl) FChainSteps.slu22 FChainSteps.u5 FChainSteps.str9 rfl rfl fun r269 hr269 => ?_
            refine Plan.slArrO (lo := 0) (hi := 32) (m := 32) (c := 32) (o' := 0) FChainSteps.arr61 rfl rfl rfl rfl (by omega) (by omega) (by omega) (by omega) ?_
            refine Plan.toStrV h267 (Bx.arr0 (n := 32) (cc := 32) 3 rfl (by omega) (by omega)) FChainSteps.slu22 FChainSteps.u5 FChainSteps.str9 rfl rfl fun r270 hr270 => ?_
            refine Plan.slArrO (lo := 0) (hi := 32) (m := 32) (c := 32) (o' := 0) FChainSteps.arr61 rfl rfl rfl rfl (by omega) (by omega) (by omega) (by omega) ?_
            refine Plan.toStrV h267 (Bx.arr0 (n := 32) (cc := 32) 2 rfl (by omega) (by omega)) FChainSteps.slu22 FChainSteps.u5 FChainSteps.str9 rfl rfl fun r271 hr271 => ?_
            obtain ⟨hc272, hR⟩ := hR
            refine Plan.addStr (X := (dl 32 x_247)) (Y := (dl 32 x_248)) hc272 rfl rfl rfl ?_
            refine Plan.eqStrV (v := decide (x_258 = ((dl 32 x_247) ++ (dl 32 x_248)))) rfl rfl rfl rfl ?_
            refine Plan.pickTb rfl rfl rfl ?_
            refine Plan.assign_bool rfl rfl ?_
            refine Plan.nil ?_
            refine hK266 _ _ ?_; clear hK266
            refine W.ret (finR_ret ?_)
            have h273 := St.pickT (C := [_, _, _, _, _, _]) h267 [] (by decide)
            simp only [pick, List.filterMap_cons, List.filterMap_nil, List.getElem?_cons_zero, List.getElem?_cons_succ, List.cons_append, List.nil_append] at h273
            subst r
            refine RetOk.mk (.tmp_bool rfl .nil) ?_
            exact ⟨rfl, h273⟩
          ·
            replace hR := ifF hR hc268
            refine Plan.cmpV (a := (((x_259 : Nat) : Int) : Int)) (b := (0 : Int)) (p := x_259 = 0) (v := false) rfl rfl rfl rfl icmp_eqN (decide_eq_false hc268) ?_
            refine Plan.move_bool rfl rfl ?_
            refine Plan.passed rfl ?_
            refine Plan.passed rfl ?_
            refine Plan.passed rfl ?_
            refine Plan.passed rfl ?_
            refine Plan.passed rfl ?_
            refine Plan.passed rfl ?_
            refine Plan.passed rfl ?_
            refine Plan.passed rfl ?_
            refine Plan.pickFb rfl rfl rfl ?_
            refine Plan.assign_bool rfl rfl ?_
            refine Plan.nil ?_
            refine hK266 _ _ ?_; clear hK266
            refine W.ret (finR_ret ?_)
            have h274 := St.pickT (C := [_, _, _, _, _, _]) h267 [] (by decide)
            simp only [pick, List.filterMap_cons, List.filterMap_nil, List.getElem?_cons_zero, List.getElem?_cons_succ, List.cons_append, List.nil_append] at h274
            subst r
            refine RetOk.mk (.tmp_bool rfl .nil) ?_
            exact ⟨rfl, h274⟩

end Go.Proofs.YtjdgbahjpdopbaaDoor
