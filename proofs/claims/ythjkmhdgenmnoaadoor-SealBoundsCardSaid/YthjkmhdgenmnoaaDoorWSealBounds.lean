/-
  WALKS of the package's functions, printed by this session's own program (auto.py).
-/
import Derived.Test.YthjkmhdgenmnoaaDoorProg
import Derived.Test.YthjkmhdgenmnoaaDoorLx6
import Derived.Test.YthjkmhdgenmnoaaDoorRSealBounds
import Derived.Test.YthjkmhdgenmnoaaDoorWLaw05
import Derived.Test.YthjkmhdgenmnoaaDoorWSeal
namespace Go.Proofs.YthjkmhdgenmnoaaDoor
set_option linter.unusedSimpArgs false
set_option linter.unusedVariables false
set_option linter.unusedSectionVars false
open Go Go.LW
theorem FSealBounds.isl24 : ∃ el, Tryd.prog.underlying 24 = some (.slice el) := ⟨5, by kernel_rfl⟩
theorem FSealBounds.agg23 : aggT Tryd.prog 23 32 = true := by kernel_rfl
theorem FSealBounds.mixed : Tryd.prog.follows .mixedOrders = true := by kernel_rfl
theorem FSealBounds.el24 : elD Tryd.prog 24 = some (1, 1, some (VU .u8 0#8)) := by kernel_rfl
theorem FSealBounds.call10 : callB Tryd.prog 10 = true := by kernel_rfl
theorem FSealBounds.call12 : callB Tryd.prog 12 = true := by kernel_rfl
theorem FSealBounds.call18 : callB Tryd.prog 18 = true := by kernel_rfl
theorem FSealBounds.call11 : callB Tryd.prog 11 = true := by kernel_rfl
theorem FSealBounds.bool4 : boolB Tryd.prog 4 = true := by kernel_rfl

set_option maxRecDepth 8000 in
set_option maxHeartbeats 1000000 in
theorem lethelaw05_SealBounds_ok {B : Nat} {w0 w : World} {L : List Rg} {iG0 : Nat} (hG0 : L[iG0]? = some ⟨some 0, 0, 8, fun q => VU .u32 (H256 q), false⟩) {iG1 : Nat} (hG1 : L[iG1]? = some ⟨some 1, 0, 64, fun q => VU .u32 (K256 q), false⟩) {key1 : Nat → BitVec 8} {text2 : Int} {data3 : Int} {r : Bool} (hR : lethelaw05_SealBounds key1 text2 data3 r) (HST : St B w0 (L) w) :
    Calls Tryd.prog 8 #[AG [(32, fun q => VU .u8 (key1 q))], .int .i64 text2, .int .i64 data3] w fun e w' => e = .returned (.bool r) ∧ St B w0 (L) w' := by
  refine W.enter 96 Tryd.func8 rfl rfl rfl ?_
  unfold lethelaw05_SealBounds at hR
  refine W.seq_k fun K4 hK4 => ?_
  refine W.regionT [(0, false), (1, true)] (by kernel_rfl) ?_
  refine Plan.boxA HST rfl rfl PIn.nil fun b5 w5 hb5 h5 => ?_
  simp only [rngs, Nat.zero_add, Nat.reduceAdd, List.cons_append, List.nil_append] at h5
  refine Plan.assign_bool rfl rfl ?_
  refine Plan.nil ?_
  refine hK4 _ _ ?_; clear hK4
  refine W.seq_k fun K6 hK6 => ?_
  refine W.regionT [(0, true), (1, false), (2, true), (3, true)] (by kernel_rfl) ?_
  refine Plan.move_int rfl rfl ?_
  obtain ⟨x_8, hr7, hR⟩ := hR
  refine Plan.call (vs := [.int .i64 text2, VN 30]) rfl FSealBounds.call11 rfl (lethelaw05_rest_ok  hr7 h5) ?_
  rintro _ w9 ⟨rfl, h9⟩
  refine ⟨_, rfl, .inl ⟨PIn.keep PIn.nil h9, ?_⟩⟩
  obtain ⟨hc10, hR⟩ := hR
  refine Plan.addI (a := 500) (b := x_8) rfl rfl rfl (by omega) ?_
  refine Plan.assign_int rfl rfl ?_
  refine Plan.nil ?_
  refine hK6 _ _ ?_; clear hK6
  refine W.seq_k fun K11 hK11 => ?_
  refine W.regionT [(0, true), (1, false), (2, true), (3, true)] (by kernel_rfl) ?_
  refine Plan.move_int rfl rfl ?_
  obtain ⟨x_13, hr12, hR⟩ := hR
  refine Plan.call (vs := [.int .i64 data3, VN 30]) rfl FSealBounds.call11 rfl (lethelaw05_rest_ok  hr12 h9) ?_
  rintro _ w14 ⟨rfl, h14⟩
  refine ⟨_, rfl, .inl ⟨PIn.keep PIn.nil h14, ?_⟩⟩
  obtain ⟨hc15, hR⟩ := hR
  refine Plan.addI (a := 65520) (b := x_13) rfl rfl rfl (by omega) ?_
  refine Plan.assign_int rfl rfl ?_
  refine Plan.nil ?_
  refine hK11 _ _ ?_; clear hK11
  refine W.seq_k fun K16 hK16 => ?_
  obtain ⟨s55, e_56, hX57, hR057⟩ := hR
  refine W.cutN (fun e w => ∃ y_s55 : List Byte, ∃ y_e_56 : Nat, (s55 = y_s55 ∧ e_56 = y_e_56) ∧ ∃ as55 : Option Addr, ∃ ps55 : Option Nat, ∃ cs55 : Nat, ∃ Fs55 : Nat → Byte, EnvHas e [(1, .int .i64 text2), (3, .pointer (some ⟨b5, 0, none⟩)), (7, .int .i64 (500 + x_8)), (8, .int .i64 (65520 + x_13)), (9, .slice as55 y_s55.length cs55), (10, VN y_e_56)] ∧ St B w0 (⟨ps55, 0, cs55, fun q => VU .u8 (Fs55 q), true⟩ :: ⟨some b5, 0, 32, fun q => VU .u8 (key1 q), true⟩ :: L) w ∧ Ow as55 ps55 y_s55.length cs55 Fs55 y_s55) ?_ ?_
  ·
    replace hR := hX57
    refine W.regionF FSealBounds.mixed (.fork [(0, true), (1, true), (3, true)] (.line [(2, false), (4, false), (5, false), (6, true), (7, true), (8, true), (9, true), (10, true)]) (.line [(4, false), (2, false), (5, false), (6, true), (7, true), (8, true), (9, true), (10, true)])) (by kernel_rfl) (PlanT.toFork ?_)
    have h58 := h14.drew
    refine Plan.loadA1 h58 0 rfl rfl rfl FSealBounds.agg23 ?_
    refine Plan.move_int rfl rfl ?_
    refine Plan.move_int rfl rfl ?_
    obtain ⟨hc60, hR⟩ := hR
    obtain ⟨hc61, hR⟩ := hR
    obtain ⟨hc63, hR⟩ := hR
    obtain ⟨hc64, hR⟩ := hR
    obtain ⟨x_66, x_67, hr65, hR⟩ := hR
    refine Plan.forked ?_ ?_
    ·
      refine PlanT.toLine ?_
      refine Plan.makeO (len := (65520 + x_13).toNat) (c := (65520 + x_13).toNat) h58 FSealBounds.el24 rfl (congrArg (Value.int .i64) (Int.toNat_of_nonneg hc60).symm) (congrArg (Value.int .i64) (Int.toNat_of_nonneg hc60).symm) hc61.1 hc61.2 (fun _ => EffO.keep (PIn.cons 1 rfl PIn.nil)) fun b74 w74 hb74 ho74 h74 => ?_
      refine Plan.makeO (len := (500 + x_8).toNat) (c := (500 + x_8).toNat) h74 FSealBounds.el24 rfl (congrArg (Value.int .i64) (Int.toNat_of_nonneg hc63).symm) (congrArg (Value.int .i64) (Int.toNat_of_nonneg hc63).symm) hc64.1 hc64.2 (fun _ => EffO.keep (PIn.cons 2 rfl PIn.nil)) fun b75 w75 hb75 ho75 h75 => ?_
      refine Plan.call (vs := [AG [(32, fun q => VU .u8 (key1 q))], .slice (some ⟨b74, 0, none⟩) ((List.replicate ((65520 + x_13).toNat) 0#8).length) ((65520 + x_13).toNat), .slice (some ⟨b75, 0, none⟩) ((List.replicate ((500 + x_8).toNat) 0#8).length) ((500 + x_8).toNat)]) rfl FSealBounds.call10 rfl (seal_Seal_ok (iG0 := iG0 + 3) hG0 (iG1 := iG1 + 3) hG1 (by exact (ho74.bx 1 rfl)) (by exact (ho75.bx 0 rfl)) hr65 h75) ?_
      rintro _ w84 ⟨ay0_79, py0_80, ny0_81, cy0_82, Fy0_83, rfl, h84, hf84_0⟩
      obtain rfl := hf84_0.hl
      refine ⟨_, rfl, .inr ⟨rfl, ?_⟩⟩
      refine Plan.move_tuple rfl rfl ?_
      refine Plan.extract_slice rfl rfl rfl ?_
      refine Plan.extract_int rfl rfl rfl ?_
      refine Plan.assign_slice rfl rfl ?_
      refine Plan.assign_int rfl rfl ?_
      refine Plan.nil ?_
      have h85 := St.pickT (C := [_, _, _, _]) h84 [0, 3] (by decide)
      simp only [pick, List.filterMap_cons, List.filterMap_nil, List.getElem?_cons_zero, List.getElem?_cons_succ, List.cons_append, List.nil_append] at h85
      exact ⟨x_66, x_67, hR, ay0_79, py0_80, cy0_82, Fy0_83, (EnvHas.cons rfl (EnvHas.cons rfl (EnvHas.cons rfl (EnvHas.cons rfl (EnvHas.cons rfl (EnvHas.cons rfl EnvHas.nil)))))), h85, hf84_0⟩
    ·
      refine PlanT.toLine ?_
      refine Plan.makeO (len := (500 + x_8).toNat) (c := (500 + x_8).toNat) h58 FSealBounds.el24 rfl (congrArg (Value.int .i64) (Int.toNat_of_nonneg hc63).symm) (congrArg (Value.int .i64) (Int.toNat_of_nonneg hc63).symm) hc64.1 hc64.2 (fun _ => EffO.keep (PIn.cons 1 rfl PIn.nil)) fun b86 w86 hb86 ho86 h86 => ?_
      refine Plan.makeO (len := (65520 + x_13).toNat) (c := (65520 + x_13).toNat) h86 FSealBounds.el24 rfl (congrArg (Value.int .i64) (Int.toNat_of_nonneg hc60).symm) (congrArg (Value.int .i64) (Int.toNat_of_nonneg hc60).symm) hc61.1 hc61.2 (fun _ => EffO.keep (PIn.cons 2 rfl PIn.nil)) fun b87 w87 hb87 ho87 h87 => ?_
      refine Plan.call (vs := [AG [(32, fun q => VU .u8 (key1 q))], .slice (some ⟨b87, 0, none⟩) ((List.replicate ((65520 + x_13).toNat) 0#8).length) ((65520 + x_13).toNat), .slice (some ⟨b86, 0, none⟩) ((List.replicate ((500 + x_8).toNat) 0#8).length) ((500 + x_8).toNat)]) rfl FSealBounds.call10 rfl (seal_Seal_ok (iG0 := iG0 + 3) hG0 (iG1 := iG1 + 3) hG1 (by exact (ho87.bx 0 rfl)) (by exact (ho86.bx 1 rfl)) hr65 h87) ?_
      rintro _ w96 ⟨ay0_91, py0_92, ny0_93, cy0_94, Fy0_95, rfl, h96, hf96_0⟩
      obtain rfl := hf96_0.hl
      refine ⟨_, rfl, .inr ⟨rfl, ?_⟩⟩
      refine Plan.move_tuple rfl rfl ?_
      refine Plan.extract_slice rfl rfl rfl ?_
      refine Plan.extract_int rfl rfl rfl ?_
      refine Plan.assign_slice rfl rfl ?_
      refine Plan.assign_int rfl rfl ?_
      refine Plan.nil ?_
      have h97 := St.pickT (C := [_, _, _, _]) h96 [0, 3] (by decide)
      simp only [pick, List.filterMap_cons, List.filterMap_nil, List.getElem?_cons_zero, List.getElem?_cons_succ, List.cons_append, List.nil_append] at h97
      exact ⟨x_66, x_67, hR, ay0_91, py0_92, cy0_94, Fy0_95, (EnvHas.cons rfl (EnvHas.cons rfl (EnvHas.cons rfl (EnvHas.cons rfl (EnvHas.cons rfl (EnvHas.cons rfl EnvHas.nil)))))), h97, hf96_0⟩
  ·
    rintro ev98 wl98 ⟨y_s55, y_e_56, ⟨hy98_0, hy98_1⟩, as55, ps55, cs55, Fs55, he98, h98, hs55⟩
    subst hy98_0
    subst hy98_1
    obtain ⟨ev98, rfl⟩ := he98.open
    replace hR := hR057
    refine hK16 _ _ ?_; clear hK16
    refine W.seq_k fun K99 hK99 => ?_
    refine W.seq_k fun K128 hK128 => ?_
    obtain ⟨t136, hX137, hR0137⟩ := hR
    refine W.cutN (fun e w => ∃ y_t136 : Bool, (t136 = y_t136) ∧ EnvHas e [(1, .int .i64 text2), (3, .pointer (some ⟨b5, 0, none⟩)), (7, .int .i64 (500 + x_8)), (8, .int .i64 (65520 + x_13)), (52, .bool y_t136)] ∧ St B w0 (⟨some b5, 0, 32, fun q => VU .u8 (key1 q), true⟩ :: L) w) ?_ ?_
    ·
      replace hR := hX137
      refine W.regionT [(0, true), (1, true), (2, true), (3, true), (4, true), (5, true), (6, true), (7, true), (8, true), (9, true), (10, true), (11, true), (12, true), (13, true), (14, true), (15, true), (16, true), (17, true), (18, true), (19, true), (20, true), (21, true)] (by kernel_rfl) ?_
      refine Plan.move_int rfl rfl ?_
      refine Plan.cmpP (a := (((e_56 : Nat) : Int) : Int)) (b := (0 : Int)) (p := e_56 = 0) rfl rfl rfl rfl icmp_eqN ?_
      refine Plan.move_int rfl rfl ?_
      by_cases hc138 : (500 + x_8) ≤ 512
      ·
        replace hR := ifT hR hc138
        refine Plan.cmpV (a := ((500 + x_8) : Int)) (b := (512 : Int)) (p := (500 + x_8) ≤ 512) (v := true) rfl rfl rfl rfl icmp_le (decide_eq_true hc138) ?_
        refine Plan.move_bool rfl rfl ?_
        refine Plan.move_int rfl rfl ?_
        refine Plan.cmpP (a := ((65520 + x_13) : Int)) (b := (65535 : Int)) (p := (65520 + x_13) ≤ 65535) rfl rfl rfl rfl icmp_le ?_
        refine Plan.pickTb rfl rfl rfl ?_
        by_cases hc139 : ((decide (e_56 = 0)) != (decide ((65520 + x_13) ≤ 65535))) = true
        ·
          replace hR := ifT hR hc139
          refine Plan.neBoolV (v := true) FSealBounds.bool4 rfl rfl rfl hc139 ?_
          refine Plan.move_bool rfl rfl ?_
          refine Plan.passed rfl ?_
          refine Plan.passed rfl ?_
          refine Plan.passed rfl ?_
          refine Plan.passed rfl ?_
          refine Plan.passed rfl ?_
          refine Plan.passed rfl ?_
          refine Plan.passed rfl ?_
          refine Plan.passed rfl ?_
          refine Plan.passed rfl ?_
          refine Plan.passed rfl ?_
          refine Plan.passed rfl ?_
          refine Plan.pickTb rfl rfl rfl ?_
          refine Plan.nil ?_
          have h140 := St.pickT (C := [_, _]) h98 [1] (by decide)
          simp only [pick, List.filterMap_cons, List.filterMap_nil, List.getElem?_cons_zero, List.getElem?_cons_succ, List.cons_append, List.nil_append] at h140
          exact ⟨true, hR, (EnvHas.cons rfl (EnvHas.cons rfl (EnvHas.cons rfl (EnvHas.cons rfl (EnvHas.cons rfl EnvHas.nil))))), h140⟩
        ·
          replace hR := ifF hR hc139
          refine Plan.neBoolV (v := false) FSealBounds.bool4 rfl rfl rfl (Bool.eq_false_iff.2 hc139) ?_
          refine Plan.move_bool rfl rfl ?_
          refine Plan.move_int rfl rfl ?_
          by_cases hc141 : e_56 ≠ 0
          ·
            replace hR := ifT hR hc141
            refine Plan.cmpV (a := (((e_56 : Nat) : Int) : Int)) (b := (0 : Int)) (p := e_56 ≠ 0) (v := true) rfl rfl rfl rfl icmp_neN (decide_eq_true hc141) ?_
            refine Plan.move_bool rfl rfl ?_
            refine Plan.move_int rfl rfl ?_
            by_cases hc142 : e_56 ≠ 5
            ·
              replace hR := ifT hR hc142
              refine Plan.cmpV (a := (((e_56 : Nat) : Int) : Int)) (b := (5 : Int)) (p := e_56 ≠ 5) (v := true) rfl rfl rfl rfl icmp_neN (decide_eq_true hc142) ?_
              refine Plan.move_bool rfl rfl ?_
              refine Plan.passed rfl ?_
              refine Plan.passed rfl ?_
              refine Plan.passed rfl ?_
              refine Plan.pickTb rfl rfl rfl ?_
              refine Plan.pickTb rfl rfl rfl ?_
              refine Plan.pickFb rfl rfl rfl ?_
              refine Plan.nil ?_
              have h143 := St.pickT (C := [_, _]) h98 [1] (by decide)
              simp only [pick, List.filterMap_cons, List.filterMap_nil, List.getElem?_cons_zero, List.getElem?_cons_succ, List.cons_append, List.nil_append] at h143
              exact ⟨true, hR, (EnvHas.cons rfl (EnvHas.cons rfl (EnvHas.cons rfl (EnvHas.cons rfl (EnvHas.cons rfl EnvHas.nil))))), h143⟩
            ·
              replace hR := ifF hR hc142
              refine Plan.cmpV (a := (((e_56 : Nat) : Int) : Int)) (b := (5 : Int)) (p := e_56 ≠ 5) (v := false) rfl rfl rfl rfl icmp_neN (decide_eq_false hc142) ?_
              refine Plan.move_bool rfl rfl ?_
              refine Plan.move_slice rfl rfl ?_
              refine Plan.len FSealBounds.isl24 rfl rfl ?_
              refine Plan.cmpP (a := (((s55.length : Nat) : Int) : Int)) (b := (0 : Int)) (p := s55.length ≠ 0) rfl rfl rfl rfl icmp_neN ?_
              refine Plan.pickFb rfl rfl rfl ?_
              refine Plan.pickTb rfl rfl rfl ?_
              refine Plan.pickFb rfl rfl rfl ?_
              refine Plan.nil ?_
              have h144 := St.pickT (C := [_, _]) h98 [1] (by decide)
              simp only [pick, List.filterMap_cons, List.filterMap_nil, List.getElem?_cons_zero, List.getElem?_cons_succ, List.cons_append, List.nil_append] at h144
              exact ⟨(decide (s55.length ≠ 0)), hR, (EnvHas.cons rfl (EnvHas.cons rfl (EnvHas.cons rfl (EnvHas.cons rfl (EnvHas.cons rfl EnvHas.nil))))), h144⟩
          ·
            replace hR := ifF hR hc141
            refine Plan.cmpV (a := (((e_56 : Nat) : Int) : Int)) (b := (0 : Int)) (p := e_56 ≠ 0) (v := false) rfl rfl rfl rfl icmp_neN (decide_eq_false hc141) ?_
            refine Plan.move_bool rfl rfl ?_
            refine Plan.passed rfl ?_
            refine Plan.passed rfl ?_
            refine Plan.passed rfl ?_
            refine Plan.passed rfl ?_
            refine Plan.passed rfl ?_
            refine Plan.passed rfl ?_
            refine Plan.passed rfl ?_
            refine Plan.pickFb rfl rfl rfl ?_
            refine Plan.pickFb rfl rfl rfl ?_
            refine Plan.nil ?_
            have h145 := St.pickT (C := [_, _]) h98 [1] (by decide)
            simp only [pick, List.filterMap_cons, List.filterMap_nil, List.getElem?_cons_zero, List.getElem?_cons_succ, List.cons_append, List.nil_append] at h145
            exact ⟨false, hR, (EnvHas.cons rfl (EnvHas.cons rfl (EnvHas.cons rfl (EnvHas.cons rfl (EnvHas.cons rfl EnvHas.nil))))), h145⟩
      ·
        replace hR := ifF hR hc138
        refine Plan.cmpV (a := ((500 + x_8) : Int)) (b := (512 : Int)) (p := (500 + x_8) ≤ 512) (v := false) rfl rfl rfl rfl icmp_le (decide_eq_false hc138) ?_
        refine Plan.move_bool rfl rfl ?_
        refine Plan.passed rfl ?_
        refine Plan.passed rfl ?_
        refine Plan.pickFb rfl rfl rfl ?_
        by_cases hc146 : ((decide (e_56 = 0)) != false) = true
        ·
          replace hR := ifT hR hc146
          refine Plan.neBoolV (v := true) FSealBounds.bool4 rfl rfl rfl hc146 ?_
          refine Plan.move_bool rfl rfl ?_
          refine Plan.passed rfl ?_
          refine Plan.passed rfl ?_
          refine Plan.passed rfl ?_
          refine Plan.passed rfl ?_
          refine Plan.passed rfl ?_
          refine Plan.passed rfl ?_
          refine Plan.passed rfl ?_
          refine Plan.passed rfl ?_
          refine Plan.passed rfl ?_
          refine Plan.passed rfl ?_
          refine Plan.passed rfl ?_
          refine Plan.pickTb rfl rfl rfl ?_
          refine Plan.nil ?_
          have h147 := St.pickT (C := [_, _]) h98 [1] (by decide)
          simp only [pick, List.filterMap_cons, List.filterMap_nil, List.getElem?_cons_zero, List.getElem?_cons_succ, List.cons_append, List.nil_append] at h147
          exact ⟨true, hR, (EnvHas.cons rfl (EnvHas.cons rfl (EnvHas.cons rfl (EnvHas.cons rfl (EnvHas.cons rfl EnvHas.nil))))), h147⟩
        ·
          replace hR := ifF hR hc146
          refine Plan.neBoolV (v := false) FSealBounds.bool4 rfl rfl rfl (Bool.eq_false_iff.2 hc146) ?_
          refine Plan.move_bool rfl rfl ?_
          refine Plan.move_int rfl rfl ?_
          by_cases hc148 : e_56 ≠ 0
          ·
            replace hR := ifT hR hc148
            refine Plan.cmpV (a := (((e_56 : Nat) : Int) : Int)) (b := (0 : Int)) (p := e_56 ≠ 0) (v := true) rfl rfl rfl rfl icmp_neN (decide_eq_true hc148) ?_
            refine Plan.move_bool rfl rfl ?_
            refine Plan.move_int rfl rfl ?_
            by_cases hc149 : e_56 ≠ 5
            ·
              replace hR := ifT hR hc149
              refine Plan.cmpV (a := (((e_56 : Nat) : Int) : Int)) (b := (5 : Int)) (p := e_56 ≠ 5) (v := true) rfl rfl rfl rfl icmp_neN (decide_eq_true hc149) ?_
              refine Plan.move_bool rfl rfl ?_
              refine Plan.passed rfl ?_
              refine Plan.passed rfl ?_
              refine Plan.passed rfl ?_
              refine Plan.pickTb rfl rfl rfl ?_
              refine Plan.pickTb rfl rfl rfl ?_
              refine Plan.pickFb rfl rfl rfl ?_
              refine Plan.nil ?_
              have h150 := St.pickT (C := [_, _]) h98 [1] (by decide)
              simp only [pick, List.filterMap_cons, List.filterMap_nil, List.getElem?_cons_zero, List.getElem?_cons_succ, List.cons_append, List.nil_append] at h150
              exact ⟨true, hR, (EnvHas.cons rfl (EnvHas.cons rfl (EnvHas.cons rfl (EnvHas.cons rfl (EnvHas.cons rfl EnvHas.nil))))), h150⟩
            ·
              replace hR := ifF hR hc149
              refine Plan.cmpV (a := (((e_56 : Nat) : Int) : Int)) (b := (5 : Int)) (p := e_56 ≠ 5) (v := false) rfl rfl rfl rfl icmp_neN (decide_eq_false hc149) ?_
              refine Plan.move_bool rfl rfl ?_
              refine Plan.move_slice rfl rfl ?_
              refine Plan.len FSealBounds.isl24 rfl rfl ?_
              refine Plan.cmpP (a := (((s55.length : Nat) : Int) : Int)) (b := (0 : Int)) (p := s55.length ≠ 0) rfl rfl rfl rfl icmp_neN ?_
              refine Plan.pickFb rfl rfl rfl ?_
              refine Plan.pickTb rfl rfl rfl ?_
              refine Plan.pickFb rfl rfl rfl ?_
              refine Plan.nil ?_
              have h151 := St.pickT (C := [_, _]) h98 [1] (by decide)
              simp only [pick, List.filterMap_cons, List.filterMap_nil, List.getElem?_cons_zero, List.getElem?_cons_succ, List.cons_append, List.nil_append] at h151
              exact ⟨(decide (s55.length ≠ 0)), hR, (EnvHas.cons rfl (EnvHas.cons rfl (EnvHas.cons rfl (EnvHas.cons rfl (EnvHas.cons rfl EnvHas.nil))))), h151⟩
          ·
            replace hR := ifF hR hc148
            refine Plan.cmpV (a := (((e_56 : Nat) : Int) : Int)) (b := (0 : Int)) (p := e_56 ≠ 0) (v := false) rfl rfl rfl rfl icmp_neN (decide_eq_false hc148) ?_
            refine Plan.move_bool rfl rfl ?_
            refine Plan.passed rfl ?_
            refine Plan.passed rfl ?_
            refine Plan.passed rfl ?_
            refine Plan.passed rfl ?_
            refine Plan.passed rfl ?_
            refine Plan.passed rfl ?_
            refine Plan.passed rfl ?_
            refine Plan.pickFb rfl rfl rfl ?_
            refine Plan.pickFb rfl rfl rfl ?_
            refine Plan.nil ?_
            have h152 := St.pickT (C := [_, _]) h98 [1] (by decide)
            simp only [pick, List.filterMap_cons, List.filterMap_nil, List.getElem?_cons_zero, List.getElem?_cons_succ, List.cons_append, List.nil_append] at h152
            exact ⟨false, hR, (EnvHas.cons rfl (EnvHas.cons rfl (EnvHas.cons rfl (EnvHas.cons rfl (EnvHas.cons rfl EnvHas.nil))))), h152⟩
    ·
      rintro ev153 wl153 ⟨y_t136, hy153_0, he153, h153⟩
      subst hy153_0
      obtain ⟨ev153, rfl⟩ := he153.open
      replace hR := hR0137
      refine hK128 _ _ ?_; clear hK128
      by_cases hc154 : t136 = true
      ·
        replace hR := ifT hR hc154
        refine W.condT (congrArg Value.bool hc154) ?_
        refine W.seq_k fun K155 hK155 => ?_
        refine W.regionT [(0, true)] (by kernel_rfl) ?_
        refine Plan.assign_bool rfl rfl ?_
        refine Plan.nil ?_
        refine hK155 _ _ ?_; clear hK155
        refine W.ret (thenR_ret (finR_ret ?_))
        have h156 := St.pickT (C := [_]) h153 [] (by decide)
        simp only [pick, List.filterMap_cons, List.filterMap_nil, List.getElem?_cons_zero, List.getElem?_cons_succ, List.cons_append, List.nil_append] at h156
        subst r
        refine RetOk.mk (.tmp_bool rfl .nil) ?_
        exact ⟨rfl, h156⟩
      ·
        replace hR := ifF hR hc154
        refine W.condF (congrArg Value.bool (Bool.eq_false_iff.2 hc154)) ?_
        refine W.skip ?_
        refine hK99 _ _ ?_; clear hK99
        refine W.seq_k fun K157 hK157 => ?_
        obtain ⟨f197, hX198, hR0198⟩ := hR
        refine W.cutN (fun e w => ∃ y_f197 : Nat, (f197 = y_f197) ∧ EnvHas e [(1, .int .i64 text2), (3, .pointer (some ⟨b5, 0, none⟩)), (7, .int .i64 (500 + x_8)), (8, .int .i64 (65520 + x_13)), (12, VN y_f197)] ∧ St B w0 (⟨some b5, 0, 32, fun q => VU .u8 (key1 q), true⟩ :: L) w) ?_ ?_
        ·
          replace hR := hX198
          refine W.regionF FSealBounds.mixed (.fork [(0, true), (1, true), (3, true), (4, true)] (.line [(2, false), (5, false), (6, false), (7, true), (8, true), (9, true), (10, true), (11, true)]) (.line [(5, false), (2, false), (6, false), (7, true), (8, true), (9, true), (10, true), (11, true)])) (by kernel_rfl) (PlanT.toFork ?_)
          have h199 := h153.drew
          refine Plan.loadA1 h199 0 rfl rfl rfl FSealBounds.agg23 ?_
          refine Plan.move_int rfl rfl ?_
          refine Plan.move_int rfl rfl ?_
          obtain ⟨hc200, hR⟩ := hR
          refine Plan.addI (a := (500 + x_8)) (b := 32) rfl rfl rfl (by omega) ?_
          obtain ⟨hc202, hR⟩ := hR
          obtain ⟨hc203, hR⟩ := hR
          obtain ⟨hc205, hR⟩ := hR
          obtain ⟨hc206, hR⟩ := hR
          obtain ⟨x_208, x_209, hr207, hR⟩ := hR
          refine Plan.forked ?_ ?_
          ·
            refine PlanT.toLine ?_
            refine Plan.makeO (len := (65520 + x_13).toNat) (c := (65520 + x_13).toNat) h199 FSealBounds.el24 rfl (congrArg (Value.int .i64) (Int.toNat_of_nonneg hc202).symm) (congrArg (Value.int .i64) (Int.toNat_of_nonneg hc202).symm) hc203.1 hc203.2 (fun _ => EffO.keep (PIn.cons 1 rfl PIn.nil)) fun b216 w216 hb216 ho216 h216 => ?_
            refine Plan.makeO (len := ((500 + x_8) + 32).toNat) (c := ((500 + x_8) + 32).toNat) h216 FSealBounds.el24 rfl (congrArg (Value.int .i64) (Int.toNat_of_nonneg hc205).symm) (congrArg (Value.int .i64) (Int.toNat_of_nonneg hc205).symm) hc206.1 hc206.2 (fun _ => EffO.keep (PIn.cons 2 rfl PIn.nil)) fun b217 w217 hb217 ho217 h217 => ?_
            refine Plan.call (vs := [AG [(32, fun q => VU .u8 (key1 q))], .slice (some ⟨b216, 0, none⟩) ((List.replicate ((65520 + x_13).toNat) 0#8).length) ((65520 + x_13).toNat), .slice (some ⟨b217, 0, none⟩) ((List.replicate (((500 + x_8) + 32).toNat) 0#8).length) (((500 + x_8) + 32).toNat)]) rfl FSealBounds.call12 rfl (seal_Open_ok (iG0 := iG0 + 3) hG0 (iG1 := iG1 + 3) hG1 (by exact (ho216.bx 1 rfl)) (by exact (ho217.bx 0 rfl)) hr207 h217) ?_
            rintro _ w226 ⟨ay0_221, py0_222, ny0_223, cy0_224, Fy0_225, rfl, h226, hf226_0⟩
            obtain rfl := hf226_0.hl
            refine ⟨_, rfl, .inr ⟨rfl, ?_⟩⟩
            refine Plan.move_tuple rfl rfl ?_
            refine Plan.extract_slice rfl rfl rfl ?_
            refine Plan.extract_int rfl rfl rfl ?_
            refine Plan.assign_slice rfl rfl ?_
            refine Plan.assign_int rfl rfl ?_
            refine Plan.nil ?_
            have h227 := St.pickT (C := [_, _, _, _]) h226 [3] (by decide)
            simp only [pick, List.filterMap_cons, List.filterMap_nil, List.getElem?_cons_zero, List.getElem?_cons_succ, List.cons_append, List.nil_append] at h227
            exact ⟨x_209, hR, (EnvHas.cons rfl (EnvHas.cons rfl (EnvHas.cons rfl (EnvHas.cons rfl (EnvHas.cons rfl EnvHas.nil))))), h227⟩
          ·
            refine PlanT.toLine ?_
            refine Plan.makeO (len := ((500 + x_8) + 32).toNat) (c := ((500 + x_8) + 32).toNat) h199 FSealBounds.el24 rfl (congrArg (Value.int .i64) (Int.toNat_of_nonneg hc205).symm) (congrArg (Value.int .i64) (Int.toNat_of_nonneg hc205).symm) hc206.1 hc206.2 (fun _ => EffO.keep (PIn.cons 1 rfl PIn.nil)) fun b228 w228 hb228 ho228 h228 => ?_
            refine Plan.makeO (len := (65520 + x_13).toNat) (c := (65520 + x_13).toNat) h228 FSealBounds.el24 rfl (congrArg (Value.int .i64) (Int.toNat_of_nonneg hc202).symm) (congrArg (Value.int .i64) (Int.toNat_of_nonneg hc202).symm) hc203.1 hc203.2 (fun _ => EffO.keep (PIn.cons 2 rfl PIn.nil)) fun b229 w229 hb229 ho229 h229 => ?_
            refine Plan.call (vs := [AG [(32, fun q => VU .u8 (key1 q))], .slice (some ⟨b229, 0, none⟩) ((List.replicate ((65520 + x_13).toNat) 0#8).length) ((65520 + x_13).toNat), .slice (some ⟨b228, 0, none⟩) ((List.replicate (((500 + x_8) + 32).toNat) 0#8).length) (((500 + x_8) + 32).toNat)]) rfl FSealBounds.call12 rfl (seal_Open_ok (iG0 := iG0 + 3) hG0 (iG1 := iG1 + 3) hG1 (by exact (ho229.bx 0 rfl)) (by exact (ho228.bx 1 rfl)) hr207 h229) ?_
            rintro _ w238 ⟨ay0_233, py0_234, ny0_235, cy0_236, Fy0_237, rfl, h238, hf238_0⟩
            obtain rfl := hf238_0.hl
            refine ⟨_, rfl, .inr ⟨rfl, ?_⟩⟩
            refine Plan.move_tuple rfl rfl ?_
            refine Plan.extract_slice rfl rfl rfl ?_
            refine Plan.extract_int rfl rfl rfl ?_
            refine Plan.assign_slice rfl rfl ?_
            refine Plan.assign_int rfl rfl ?_
            refine Plan.nil ?_
            have h239 := St.pickT (C := [_, _, _, _]) h238 [3] (by decide)
            simp only [pick, List.filterMap_cons, List.filterMap_nil, List.getElem?_cons_zero, List.getElem?_cons_succ, List.cons_append, List.nil_append] at h239
            exact ⟨x_209, hR, (EnvHas.cons rfl (EnvHas.cons rfl (EnvHas.cons rfl (EnvHas.cons rfl (EnvHas.cons rfl EnvHas.nil))))), h239⟩
        ·
          rintro ev240 wl240 ⟨y_f197, hy240_0, he240, h240⟩
          subst hy240_0
          obtain ⟨ev240, rfl⟩ := he240.open
          replace hR := hR0198
          refine hK157 _ _ ?_; clear hK157
          refine W.seq_k fun K241 hK241 => ?_
          obtain ⟨ok248, hX248, hR0248⟩ := hR
          refine W.cutN (fun e w => (ok248 = true) ∧ EnvHas e [(1, .int .i64 text2), (3, .pointer (some ⟨b5, 0, none⟩)), (8, .int .i64 (65520 + x_13))] ∧ St B w0 (⟨some b5, 0, 32, fun q => VU .u8 (key1 q), true⟩ :: L) w) ?_ ?_
          ·
            replace hR := hX248
            refine W.seq_k fun K249 hK249 => ?_
            refine W.regionT [(0, true), (1, true), (2, true), (3, true), (4, true), (5, true), (6, true), (7, true), (8, true)] (by kernel_rfl) ?_
            refine Plan.move_int rfl rfl ?_
            refine Plan.cmpP (a := (((f197 : Nat) : Int) : Int)) (b := (5 : Int)) (p := f197 = 5) rfl rfl rfl rfl icmp_eqN ?_
            refine Plan.move_int rfl rfl ?_
            by_cases hc250 : 512 < (500 + x_8)
            ·
              replace hR := ifT hR hc250
              refine Plan.cmpV (a := ((500 + x_8) : Int)) (b := (512 : Int)) (p := 512 < (500 + x_8)) (v := true) rfl rfl rfl rfl icmp_gt (decide_eq_true hc250) ?_
              refine Plan.move_bool rfl rfl ?_
              refine Plan.passed rfl ?_
              refine Plan.passed rfl ?_
              refine Plan.pickTb rfl rfl rfl ?_
              refine Plan.neBoolV (v := ((decide (f197 = 5)) != true)) FSealBounds.bool4 rfl rfl rfl rfl ?_
              refine Plan.nil ?_
              refine hK249 _ _ ?_; clear hK249
              by_cases hc251 : ((decide (f197 = 5)) != true) = true
              ·
                replace hR := ifT hR hc251
                refine W.condT (congrArg Value.bool hc251) ?_
                refine W.seq_k fun K252 hK252 => ?_
                refine W.regionT [(0, true)] (by kernel_rfl) ?_
                refine Plan.assign_bool rfl rfl ?_
                refine Plan.nil ?_
                refine hK252 _ _ ?_; clear hK252
                refine W.ret (thenR_ret (thenR_ret (finR_ret ?_)))
                have h253 := St.pickT (C := [_]) h240 [] (by decide)
                simp only [pick, List.filterMap_cons, List.filterMap_nil, List.getElem?_cons_zero, List.getElem?_cons_succ, List.cons_append, List.nil_append] at h253
                replace hR := hR.2
                subst r
                refine RetOk.mk (.tmp_bool rfl .nil) ?_
                exact ⟨rfl, h253⟩
              ·
                replace hR := ifF hR hc251
                refine W.condF (congrArg Value.bool (Bool.eq_false_iff.2 hc251)) ?_
                refine W.skip ?_
                exact ⟨hR, (EnvHas.cons rfl (EnvHas.cons rfl (EnvHas.cons rfl EnvHas.nil))), h240⟩
            ·
              replace hR := ifF hR hc250
              refine Plan.cmpV (a := ((500 + x_8) : Int)) (b := (512 : Int)) (p := 512 < (500 + x_8)) (v := false) rfl rfl rfl rfl icmp_gt (decide_eq_false hc250) ?_
              refine Plan.move_bool rfl rfl ?_
              refine Plan.move_int rfl rfl ?_
              refine Plan.cmpP (a := ((65520 + x_13) : Int)) (b := (65535 : Int)) (p := 65535 < (65520 + x_13)) rfl rfl rfl rfl icmp_gt ?_
              refine Plan.pickFb rfl rfl rfl ?_
              refine Plan.neBoolV (v := ((decide (f197 = 5)) != (decide (65535 < (65520 + x_13))))) FSealBounds.bool4 rfl rfl rfl rfl ?_
              refine Plan.nil ?_
              refine hK249 _ _ ?_; clear hK249
              by_cases hc254 : ((decide (f197 = 5)) != (decide (65535 < (65520 + x_13)))) = true
              ·
                replace hR := ifT hR hc254
                refine W.condT (congrArg Value.bool hc254) ?_
                refine W.seq_k fun K255 hK255 => ?_
                refine W.regionT [(0, true)] (by kernel_rfl) ?_
                refine Plan.assign_bool rfl rfl ?_
                refine Plan.nil ?_
                refine hK255 _ _ ?_; clear hK255
                refine W.ret (thenR_ret (thenR_ret (finR_ret ?_)))
                have h256 := St.pickT (C := [_]) h240 [] (by decide)
                simp only [pick, List.filterMap_cons, List.filterMap_nil, List.getElem?_cons_zero, List.getElem?_cons_succ, List.cons_append, List.nil_append] at h256
                replace hR := hR.2
                subst r
                refine RetOk.mk (.tmp_bool rfl .nil) ?_
                exact ⟨rfl, h256⟩
              ·
                replace hR := ifF hR hc254
                refine W.condF (congrArg Value.bool (Bool.eq_false_iff.2 hc254)) ?_
                refine W.skip ?_
                exact ⟨hR, (EnvHas.cons rfl (EnvHas.cons rfl (EnvHas.cons rfl EnvHas.nil))), h240⟩
          ·
            rintro ev257 wl257 ⟨hy257_0, he257, h257⟩
            obtain ⟨ev257, rfl⟩ := he257.open
            replace hR := hR0248 hy257_0
            refine hK241 _ _ ?_; clear hK241
            refine W.seq_k fun K258 hK258 => ?_
            obtain ⟨g_295, hX296, hR0296⟩ := hR
            refine W.cutN (fun e w => ∃ y_g_295 : Nat, (g_295 = y_g_295) ∧ EnvHas e [(1, .int .i64 text2), (14, VN y_g_295)] ∧ St B w0 (L) w) ?_ ?_
            ·
              replace hR := hX296
              refine W.regionF FSealBounds.mixed (.fork [(0, true), (1, true)] (.line [(2, false), (3, false), (4, false), (5, true), (6, true), (7, true), (8, true), (9, true)]) (.line [(3, false), (2, false), (4, false), (5, true), (6, true), (7, true), (8, true), (9, true)])) (by kernel_rfl) (PlanT.toFork ?_)
              have h297 := h257.drew
              refine Plan.loadA1 h297 0 rfl rfl rfl FSealBounds.agg23 ?_
              refine Plan.move_int rfl rfl ?_
              obtain ⟨hc299, hR⟩ := hR
              obtain ⟨hc300, hR⟩ := hR
              obtain ⟨x_303, x_304, hr302, hR⟩ := hR
              refine Plan.forked ?_ ?_
              ·
                refine PlanT.toLine ?_
                refine Plan.makeO (len := (65520 + x_13).toNat) (c := (65520 + x_13).toNat) h297 FSealBounds.el24 rfl (congrArg (Value.int .i64) (Int.toNat_of_nonneg hc299).symm) (congrArg (Value.int .i64) (Int.toNat_of_nonneg hc299).symm) hc300.1 hc300.2 (fun _ => EffO.keep (PIn.cons 1 rfl PIn.nil)) fun b311 w311 hb311 ho311 h311 => ?_
                refine Plan.makeO (len := 31) (c := 31) h311 FSealBounds.el24 rfl rfl rfl (by omega) (by omega) (fun _ => EffO.keep (PIn.cons 2 rfl PIn.nil)) fun b312 w312 hb312 ho312 h312 => ?_
                refine Plan.call (vs := [AG [(32, fun q => VU .u8 (key1 q))], .slice (some ⟨b311, 0, none⟩) ((List.replicate ((65520 + x_13).toNat) 0#8).length) ((65520 + x_13).toNat), .slice (some ⟨b312, 0, none⟩) ((List.replicate 31 0#8).length) 31]) rfl FSealBounds.call12 rfl (seal_Open_ok (iG0 := iG0 + 3) hG0 (iG1 := iG1 + 3) hG1 (by exact (ho311.bx 1 rfl)) (by exact (ho312.bx 0 rfl)) hr302 h312) ?_
                rintro _ w321 ⟨ay0_316, py0_317, ny0_318, cy0_319, Fy0_320, rfl, h321, hf321_0⟩
                obtain rfl := hf321_0.hl
                refine ⟨_, rfl, .inr ⟨rfl, ?_⟩⟩
                refine Plan.move_tuple rfl rfl ?_
                refine Plan.extract_slice rfl rfl rfl ?_
                refine Plan.extract_int rfl rfl rfl ?_
                refine Plan.assign_slice rfl rfl ?_
                refine Plan.assign_int rfl rfl ?_
                refine Plan.nil ?_
                have h322 := St.pickT (C := [_, _, _, _]) h321 [] (by decide)
                simp only [pick, List.filterMap_cons, List.filterMap_nil, List.getElem?_cons_zero, List.getElem?_cons_succ, List.cons_append, List.nil_append] at h322
                exact ⟨x_304, hR, (EnvHas.cons rfl (EnvHas.cons rfl EnvHas.nil)), h322⟩
              ·
                refine PlanT.toLine ?_
                refine Plan.makeO (len := 31) (c := 31) h297 FSealBounds.el24 rfl rfl rfl (by omega) (by omega) (fun _ => EffO.keep (PIn.cons 1 rfl PIn.nil)) fun b323 w323 hb323 ho323 h323 => ?_
                refine Plan.makeO (len := (65520 + x_13).toNat) (c := (65520 + x_13).toNat) h323 FSealBounds.el24 rfl (congrArg (Value.int .i64) (Int.toNat_of_nonneg hc299).symm) (congrArg (Value.int .i64) (Int.toNat_of_nonneg hc299).symm) hc300.1 hc300.2 (fun _ => EffO.keep (PIn.cons 2 rfl PIn.nil)) fun b324 w324 hb324 ho324 h324 => ?_
                refine Plan.call (vs := [AG [(32, fun q => VU .u8 (key1 q))], .slice (some ⟨b324, 0, none⟩) ((List.replicate ((65520 + x_13).toNat) 0#8).length) ((65520 + x_13).toNat), .slice (some ⟨b323, 0, none⟩) ((List.replicate 31 0#8).length) 31]) rfl FSealBounds.call12 rfl (seal_Open_ok (iG0 := iG0 + 3) hG0 (iG1 := iG1 + 3) hG1 (by exact (ho324.bx 0 rfl)) (by exact (ho323.bx 1 rfl)) hr302 h324) ?_
                rintro _ w333 ⟨ay0_328, py0_329, ny0_330, cy0_331, Fy0_332, rfl, h333, hf333_0⟩
                obtain rfl := hf333_0.hl
                refine ⟨_, rfl, .inr ⟨rfl, ?_⟩⟩
                refine Plan.move_tuple rfl rfl ?_
                refine Plan.extract_slice rfl rfl rfl ?_
                refine Plan.extract_int rfl rfl rfl ?_
                refine Plan.assign_slice rfl rfl ?_
                refine Plan.assign_int rfl rfl ?_
                refine Plan.nil ?_
                have h334 := St.pickT (C := [_, _, _, _]) h333 [] (by decide)
                simp only [pick, List.filterMap_cons, List.filterMap_nil, List.getElem?_cons_zero, List.getElem?_cons_succ, List.cons_append, List.nil_append] at h334
                exact ⟨x_304, hR, (EnvHas.cons rfl (EnvHas.cons rfl EnvHas.nil)), h334⟩
            ·
              rintro ev335 wl335 ⟨y_g_295, hy335_0, he335, h335⟩
              subst hy335_0
              obtain ⟨ev335, rfl⟩ := he335.open
              replace hR := hR0296
              refine hK258 _ _ ?_; clear hK258
              refine W.seq_k fun K336 hK336 => ?_
              refine W.regionT [(0, true)] (by kernel_rfl) ?_
              refine Plan.assign_int rfl rfl ?_
              refine Plan.nil ?_
              refine hK336 _ _ ?_; clear hK336
              refine W.seq_k fun K337 hK337 => ?_
              obtain ⟨want341, hX342, hR0342⟩ := hR
              refine W.cutN (fun e w => ∃ y_want341 : Int, (want341 = y_want341) ∧ EnvHas e [(1, .int .i64 text2), (14, VN g_295), (15, .int .i64 y_want341)] ∧ St B w0 (L) w) ?_ ?_
              ·
                replace hR := hX342
                refine W.seq_k fun K343 hK343 => ?_
                refine W.regionT [(0, true), (1, true), (2, true), (3, true), (4, true), (5, true)] (by kernel_rfl) ?_
                refine Plan.move_int rfl rfl ?_
                by_cases hc344 : 0 ≤ text2
                ·
                  replace hR := ifT hR hc344
                  refine Plan.cmpV (a := (text2 : Int)) (b := (0 : Int)) (p := 0 ≤ text2) (v := true) rfl rfl rfl rfl icmp_ge (decide_eq_true hc344) ?_
                  refine Plan.move_bool rfl rfl ?_
                  refine Plan.move_int rfl rfl ?_
                  refine Plan.cmpP (a := (text2 : Int)) (b := (512 : Int)) (p := text2 ≤ 512) rfl rfl rfl rfl icmp_le ?_
                  refine Plan.pickTb rfl rfl rfl ?_
                  refine Plan.nil ?_
                  refine hK343 _ _ ?_; clear hK343
                  by_cases hc345 : text2 ≤ 512
                  ·
                    replace hR := ifT hR hc345
                    refine W.condT (congrArg Value.bool (decide_eq_true hc345)) ?_
                    refine W.regionT [(0, true), (1, true), (2, true)] (by kernel_rfl) ?_
                    refine Plan.move_int rfl rfl ?_
                    refine Plan.addI (a := text2) (b := 32) rfl rfl rfl (by omega) ?_
                    refine Plan.assign_int rfl rfl ?_
                    refine Plan.nil ?_
                    exact ⟨(text2 + 32), hR, (EnvHas.cons rfl (EnvHas.cons rfl (EnvHas.cons rfl EnvHas.nil))), h335⟩
                  ·
                    replace hR := ifF hR hc345
                    refine W.condF (congrArg Value.bool (decide_eq_false hc345)) ?_
                    refine W.skip ?_
                    exact ⟨0, hR, (EnvHas.cons rfl (EnvHas.cons rfl (EnvHas.cons rfl EnvHas.nil))), h335⟩
                ·
                  replace hR := ifF hR hc344
                  refine Plan.cmpV (a := (text2 : Int)) (b := (0 : Int)) (p := 0 ≤ text2) (v := false) rfl rfl rfl rfl icmp_ge (decide_eq_false hc344) ?_
                  refine Plan.move_bool rfl rfl ?_
                  refine Plan.passed rfl ?_
                  refine Plan.passed rfl ?_
                  refine Plan.pickFb rfl rfl rfl ?_
                  refine Plan.nil ?_
                  refine hK343 _ _ ?_; clear hK343
                  refine W.condF rfl ?_
                  refine W.skip ?_
                  exact ⟨0, hR, (EnvHas.cons rfl (EnvHas.cons rfl (EnvHas.cons rfl EnvHas.nil))), h335⟩
              ·
                rintro ev346 wl346 ⟨y_want341, hy346_0, he346, h346⟩
                subst hy346_0
                obtain ⟨ev346, rfl⟩ := he346.open
                replace hR := hR0342
                refine hK337 _ _ ?_; clear hK337
                refine W.seq_k fun K347 hK347 => ?_
                refine W.regionT [(0, true), (1, true), (2, true), (3, true), (4, false), (5, true), (6, true), (7, true), (8, true)] (by kernel_rfl) ?_
                refine Plan.move_int rfl rfl ?_
                by_cases hc348 : g_295 = 10
                ·
                  replace hR := ifT hR hc348
                  refine Plan.cmpV (a := (((g_295 : Nat) : Int) : Int)) (b := (10 : Int)) (p := g_295 = 10) (v := true) rfl rfl rfl rfl icmp_eqN (decide_eq_true hc348) ?_
                  refine Plan.move_bool rfl rfl ?_
                  refine Plan.move_int rfl rfl ?_
                  obtain ⟨x_350, hr349, hR⟩ := hR
                  refine Plan.call (vs := [.int .i64 text2]) rfl FSealBounds.call18 rfl (seal_Length_ok  hr349 h346) ?_
                  rintro _ w351 ⟨rfl, h351⟩
                  refine ⟨_, rfl, .inl ⟨PIn.keep PIn.nil h351, ?_⟩⟩
                  refine Plan.move_int rfl rfl ?_
                  refine Plan.cmpP (a := (x_350 : Int)) (b := (want341 : Int)) (p := x_350 = want341) rfl rfl rfl rfl icmp_eq ?_
                  refine Plan.pickTb rfl rfl rfl ?_
                  refine Plan.assign_bool rfl rfl ?_
                  refine Plan.nil ?_
                  refine hK347 _ _ ?_; clear hK347
                  refine W.ret (finR_ret ?_)
                  subst r
                  refine RetOk.mk (.tmp_bool rfl .nil) ?_
                  exact ⟨rfl, h351⟩
                ·
                  replace hR := ifF hR hc348
                  refine Plan.cmpV (a := (((g_295 : Nat) : Int) : Int)) (b := (10 : Int)) (p := g_295 = 10) (v := false) rfl rfl rfl rfl icmp_eqN (decide_eq_false hc348) ?_
                  refine Plan.move_bool rfl rfl ?_
                  refine Plan.passed rfl ?_
                  refine Plan.passed rfl ?_
                  refine Plan.passed rfl ?_
                  refine Plan.passed rfl ?_
                  refine Plan.pickFb rfl rfl rfl ?_
                  refine Plan.assign_bool rfl rfl ?_
                  refine Plan.nil ?_
                  refine hK347 _ _ ?_; clear hK347
                  refine W.ret (finR_ret ?_)
                  subst r
                  refine RetOk.mk (.tmp_bool rfl .nil) ?_
                  exact ⟨rfl, h346⟩

end Go.Proofs.YthjkmhdgenmnoaaDoor
