/-
  WALKS of the package's functions, printed by this session's own program (auto.py).
-/
import Derived.Test.YthjkmhdgenmnoaaDoorProg
import Derived.Test.YthjkmhdgenmnoaaDoorLx6
import Derived.Test.YthjkmhdgenmnoaaDoorRSealRefuses
import Derived.Test.YthjkmhdgenmnoaaDoorWLaw05
import Derived.Test.YthjkmhdgenmnoaaDoorWSeal
namespace Go.Proofs.YthjkmhdgenmnoaaDoor
set_option linter.unusedSimpArgs false
set_option linter.unusedVariables false
set_option linter.unusedSectionVars false
open Go Go.LW
theorem FSealRefuses.isl24 : ∃ el, Tryd.prog.underlying 24 = some (.slice el) := ⟨5, by kernel_rfl⟩
theorem FSealRefuses.sl24 : slB Tryd.prog 24 1 = true := by kernel_rfl
theorem FSealRefuses.call9 : callB Tryd.prog 9 = true := by kernel_rfl
theorem FSealRefuses.agg23 : aggT Tryd.prog 23 32 = true := by kernel_rfl
theorem FSealRefuses.z31 : zeroIs Tryd.prog 31 [(16, fun _ => VU .u8 0#8)] := zeroIs_agg (by kernel_rfl)
theorem FSealRefuses.mixed : Tryd.prog.follows .mixedOrders = true := by kernel_rfl
theorem FSealRefuses.el24 : elD Tryd.prog 24 = some (1, 1, some (VU .u8 0#8)) := by kernel_rfl
theorem FSealRefuses.u5 : Tryd.prog.underlying 5 = some (.int .u8) := by kernel_rfl
theorem FSealRefuses.sz5 : szT Tryd.prog 5 1 = true := by kernel_rfl
theorem FSealRefuses.sc5 : scalarT Tryd.prog 5 = true := by kernel_rfl
theorem FSealRefuses.some3 : (Tryd.prog.underlying 3).isSome = true := by kernel_rfl
theorem FSealRefuses.sz31 : szT Tryd.prog 31 16 = true := by kernel_rfl
theorem FSealRefuses.call10 : callB Tryd.prog 10 = true := by kernel_rfl
theorem FSealRefuses.call12 : callB Tryd.prog 12 = true := by kernel_rfl
theorem FSealRefuses.call14 : callB Tryd.prog 14 = true := by kernel_rfl
theorem FSealRefuses.call13 : callB Tryd.prog 13 = true := by kernel_rfl
theorem FSealRefuses.call15 : callB Tryd.prog 15 = true := by kernel_rfl
theorem FSealRefuses.call11 : callB Tryd.prog 11 = true := by kernel_rfl
theorem FSealRefuses.bool4 : boolB Tryd.prog 4 = true := by kernel_rfl

set_option maxRecDepth 8000 in
set_option maxHeartbeats 1000000 in
theorem lethelaw05_SealRefuses_ok {B : Nat} {w0 w : World} {L : List Rg} {iG0 : Nat} (hG0 : L[iG0]? = some ⟨some 0, 0, 8, fun q => VU .u32 (H256 q), false⟩) {iG1 : Nat} (hG1 : L[iG1]? = some ⟨some 1, 0, 64, fun q => VU .u32 (K256 q), false⟩) {key1 : Nat → BitVec 8} {data2 : List Byte} {adata2 : Option Addr} {ndata2 cdata2 idata2 : Nat} (hdata2 : Bx L idata2 adata2 ndata2 cdata2 data2) {text3 : List Byte} {atext3 : Option Addr} {ntext3 ctext3 itext3 : Nat} (htext3 : Bx L itext3 atext3 ntext3 ctext3 text3) {other4 : Nat → BitVec 8} {odd5 : List Byte} {aodd5 : Option Addr} {nodd5 codd5 iodd5 : Nat} (hodd5 : Bx L iodd5 aodd5 nodd5 codd5 odd5) {at_6 : Int} {by_7 : Int} {r : Bool} (hR : lethelaw05_SealRefuses key1 data2 text3 other4 odd5 at_6 by_7 r) (HST : St B w0 (L) w) :
    Calls Tryd.prog 4 #[AG [(32, fun q => VU .u8 (key1 q))], .slice adata2 ndata2 cdata2, .slice atext3 ntext3 ctext3, AG [(32, fun q => VU .u8 (other4 q))], .slice aodd5 nodd5 codd5, .int .i64 at_6, .int .i64 by_7] w fun e w' => e = .returned (.bool r) ∧ St B w0 (L) w' := by
  refine W.enter 188 Tryd.func4 rfl rfl rfl ?_
  unfold lethelaw05_SealRefuses at hR
  have edata2 := hdata2.hl; subst edata2
  have etext3 := htext3.hl; subst etext3
  have eodd5 := hodd5.hl; subst eodd5
  refine W.seq_k fun K8 hK8 => ?_
  refine W.regionT [(0, false), (1, false), (2, true)] (by kernel_rfl) ?_
  refine Plan.boxA HST rfl rfl PIn.nil fun b9 w9 hb9 h9 => ?_
  simp only [rngs, Nat.zero_add, Nat.reduceAdd, List.cons_append, List.nil_append] at h9
  refine Plan.boxA h9 rfl rfl PIn.nil fun b10 w10 hb10 h10 => ?_
  simp only [rngs, Nat.zero_add, Nat.reduceAdd, List.cons_append, List.nil_append] at h10
  refine Plan.assign_bool rfl rfl ?_
  refine Plan.nil ?_
  refine hK8 _ _ ?_; clear hK8
  refine W.seq_k fun K11 hK11 => ?_
  refine W.regionT [(0, true), (1, false), (2, true), (3, false), (4, true), (5, false), (6, true), (7, true), (8, true)] (by kernel_rfl) ?_
  refine Plan.move_slice rfl rfl ?_
  obtain ⟨x_13, hr12, hR⟩ := hR
  refine Plan.call (vs := [.slice adata2 data2.length cdata2, VN 200]) rfl FSealRefuses.call9 rfl (lethelaw05_short_ok (hdata2.app [_, _]) hr12 h10) ?_
  rintro _ w17 ⟨ay0_14, ny0_15, cy0_16, rfl, h17, hf17_0⟩
  obtain rfl := hf17_0.hl
  refine ⟨_, rfl, .inl ⟨PIn.keep PIn.nil h17, ?_⟩⟩
  refine Plan.move_slice rfl rfl ?_
  obtain ⟨x_19, hr18, hR⟩ := hR
  refine Plan.call (vs := [.slice atext3 text3.length ctext3, VN 512]) rfl FSealRefuses.call9 rfl (lethelaw05_short_ok (htext3.app [_, _]) hr18 h17) ?_
  rintro _ w23 ⟨ay0_20, ny0_21, cy0_22, rfl, h23, hf23_0⟩
  obtain rfl := hf23_0.hl
  refine ⟨_, rfl, .inl ⟨PIn.keep PIn.nil h23, ?_⟩⟩
  refine Plan.move_slice rfl rfl ?_
  obtain ⟨x_25, hr24, hR⟩ := hR
  refine Plan.call (vs := [.slice aodd5 odd5.length codd5, VN 200]) rfl FSealRefuses.call9 rfl (lethelaw05_short_ok (hodd5.app [_, _]) hr24 h23) ?_
  rintro _ w29 ⟨ay0_26, ny0_27, cy0_28, rfl, h29, hf29_0⟩
  obtain rfl := hf29_0.hl
  refine ⟨_, rfl, .inl ⟨PIn.keep PIn.nil h29, ?_⟩⟩
  refine Plan.assign_slice rfl rfl ?_
  refine Plan.assign_slice rfl rfl ?_
  refine Plan.assign_slice rfl rfl ?_
  refine Plan.nil ?_
  refine hK11 _ _ ?_; clear hK11
  refine W.seq_k fun K30 hK30 => ?_
  refine W.regionT [(0, true), (1, true), (2, true), (3, false), (4, true), (5, true), (6, true), (7, true), (8, true)] (by kernel_rfl) ?_
  refine Plan.loadA1 h29 1 rfl rfl rfl FSealRefuses.agg23 ?_
  refine Plan.move_slice rfl rfl ?_
  refine Plan.move_slice rfl rfl ?_
  obtain ⟨x_32, x_33, hr31, hR⟩ := hR
  refine Plan.call (vs := [AG [(32, fun q => VU .u8 (key1 q))], .slice ay0_14 x_13.length cy0_16, .slice ay0_20 x_19.length cy0_22]) rfl FSealRefuses.call10 rfl (seal_Seal_ok (iG0 := iG0 + 2) hG0 (iG1 := iG1 + 2) hG1 ((Bx.unapp (D := [_, _]) hf17_0).app [_, _]) ((Bx.unapp (D := [_, _]) hf23_0).app [_, _]) hr31 h29) ?_
  rintro _ w39 ⟨ay0_34, py0_35, ny0_36, cy0_37, Fy0_38, rfl, h39, hf39_0⟩
  obtain rfl := hf39_0.hl
  refine ⟨_, rfl, .inr ⟨rfl, ?_⟩⟩
  refine Plan.move_tuple rfl rfl ?_
  refine Plan.extract_slice rfl rfl rfl ?_
  refine Plan.extract_int rfl rfl rfl ?_
  refine Plan.assign_slice rfl rfl ?_
  refine Plan.assign_int rfl rfl ?_
  refine Plan.nil ?_
  refine hK30 _ _ ?_; clear hK30
  refine W.seq_k fun K40 hK40 => ?_
  refine W.seq_k fun K46 hK46 => ?_
  refine W.regionT [(0, true), (1, true), (2, true), (3, true), (4, true), (5, true), (6, true)] (by kernel_rfl) ?_
  refine Plan.move_int rfl rfl ?_
  by_cases hc47 : x_33 ≠ 0
  ·
    replace hR := ifT hR hc47
    refine Plan.cmpV (a := (((x_33 : Nat) : Int) : Int)) (b := (0 : Int)) (p := x_33 ≠ 0) (v := true) rfl rfl rfl rfl icmp_neN (decide_eq_true hc47) ?_
    refine Plan.move_bool rfl rfl ?_
    refine Plan.passed rfl ?_
    refine Plan.passed rfl ?_
    refine Plan.passed rfl ?_
    refine Plan.pickTb rfl rfl rfl ?_
    refine Plan.nil ?_
    refine hK46 _ _ ?_; clear hK46
    refine W.condT rfl ?_
    refine W.seq_k fun K48 hK48 => ?_
    refine W.regionT [(0, true)] (by kernel_rfl) ?_
    refine Plan.assign_bool rfl rfl ?_
    refine Plan.nil ?_
    refine hK48 _ _ ?_; clear hK48
    refine W.ret (thenR_ret (finR_ret ?_))
    have h49 := St.pickT (C := [_, _, _]) h39 [] (by decide)
    simp only [pick, List.filterMap_cons, List.filterMap_nil, List.getElem?_cons_zero, List.getElem?_cons_succ, List.cons_append, List.nil_append] at h49
    subst r
    refine RetOk.mk (.tmp_bool rfl .nil) ?_
    exact ⟨rfl, h49⟩
  ·
    replace hR := ifF hR hc47
    refine Plan.cmpV (a := (((x_33 : Nat) : Int) : Int)) (b := (0 : Int)) (p := x_33 ≠ 0) (v := false) rfl rfl rfl rfl icmp_neN (decide_eq_false hc47) ?_
    refine Plan.move_bool rfl rfl ?_
    refine Plan.move_slice rfl rfl ?_
    refine Plan.len FSealRefuses.isl24 rfl rfl ?_
    refine Plan.cmpP (a := (((x_32.length : Nat) : Int) : Int)) (b := (32 : Int)) (p := x_32.length < 32) rfl rfl rfl rfl icmp_ltN ?_
    refine Plan.pickFb rfl rfl rfl ?_
    refine Plan.nil ?_
    refine hK46 _ _ ?_; clear hK46
    by_cases hc50 : x_32.length < 32
    ·
      replace hR := ifT hR hc50
      refine W.condT (congrArg Value.bool (decide_eq_true hc50)) ?_
      refine W.seq_k fun K51 hK51 => ?_
      refine W.regionT [(0, true)] (by kernel_rfl) ?_
      refine Plan.assign_bool rfl rfl ?_
      refine Plan.nil ?_
      refine hK51 _ _ ?_; clear hK51
      refine W.ret (thenR_ret (finR_ret ?_))
      have h52 := St.pickT (C := [_, _, _]) h39 [] (by decide)
      simp only [pick, List.filterMap_cons, List.filterMap_nil, List.getElem?_cons_zero, List.getElem?_cons_succ, List.cons_append, List.nil_append] at h52
      subst r
      refine RetOk.mk (.tmp_bool rfl .nil) ?_
      exact ⟨rfl, h52⟩
    ·
      replace hR := ifF hR hc50
      refine W.condF (congrArg Value.bool (decide_eq_false hc50)) ?_
      refine W.skip ?_
      refine hK40 _ _ ?_; clear hK40
      refine W.seq_k fun K53 hK53 => ?_
      refine W.regionT [(0, true), (1, false), (2, true)] (by kernel_rfl) ?_
      refine Plan.move_slice rfl rfl ?_
      have h54 := h39.nilR
      obtain ⟨hc56, hR⟩ := hR
      refine Plan.appendO (X := ([] : List Byte)) (Y := x_32) h54 0 Ow.nil FSealRefuses.el24 FSealRefuses.sl24 rfl rfl rfl rfl (hf39_0.bx 1 rfl) hc56 (fun _ => EffO.keep PIn.nil) fun a55 pb55 cap55 F55 w55 ho55 h55 => ?_
      simp only [List.cons_append, List.nil_append, List.set_cons_zero, List.set_cons_succ] at h55
      refine Plan.assign_slice rfl rfl ?_
      refine Plan.nil ?_
      refine hK53 _ _ ?_; clear hK53
      refine W.seq_k fun K57 hK57 => ?_
      refine W.regionT [(0, true), (1, true), (2, true), (3, false), (4, true)] (by kernel_rfl) ?_
      refine Plan.move_int rfl rfl ?_
      refine Plan.move_slice rfl rfl ?_
      refine Plan.len FSealRefuses.isl24 rfl rfl ?_
      obtain ⟨x_59, hr58, hR⟩ := hR
      refine Plan.call (vs := [.int .i64 at_6, VN ((([] : List Byte) ++ x_32).length)]) rfl FSealRefuses.call11 rfl (lethelaw05_rest_ok  hr58 h55) ?_
      rintro _ w60 ⟨rfl, h60⟩
      refine ⟨_, rfl, .inl ⟨PIn.keep PIn.nil h60, ?_⟩⟩
      refine Plan.assign_int rfl rfl ?_
      refine Plan.nil ?_
      refine hK57 _ _ ?_; clear hK57
      refine W.seq_k fun K61 hK61 => ?_
      refine W.regionD FSealRefuses.mixed [(0, true), (1, true), (2, true), (3, true), (4, true), (5, true), (6, true), (7, false), (8, true), (9, true), (10, true), (11, true), (12, false)] (by kernel_rfl) ?_
      have h62 := h60.drew
      refine Plan.move_slice rfl rfl ?_
      refine Plan.move_int rfl rfl ?_
      refine Plan.move_slice rfl rfl ?_
      refine Plan.move_int rfl rfl ?_
      obtain ⟨hc63, hR⟩ := hR
      refine Plan.idxVS (j := x_59.toNat) h62 (ho55.bx 0 rfl) FSealRefuses.sl24 rfl rfl (congrArg (Value.int .i64) (Int.toNat_of_nonneg hc63.1).symm) (by omega) ?_
      refine Plan.loadV (j := x_59.toNat) h62 (ho55.bx 0 rfl) rfl rfl (by omega) FSealRefuses.sc5 fun r64 hr64 => ?_
      refine Plan.move_int rfl rfl ?_
      obtain ⟨x_66, hr65, hR⟩ := hR
      refine Plan.call (vs := [.int .i64 by_7, VN 255]) rfl FSealRefuses.call11 rfl (lethelaw05_rest_ok  hr65 h62) ?_
      rintro _ w67 ⟨rfl, h67⟩
      refine ⟨_, rfl, .inl ⟨PIn.keep (PIn.cons 0 hr64 PIn.nil) h67, ?_⟩⟩
      obtain ⟨hc68, hR⟩ := hR
      refine Plan.addI (a := 1) (b := x_66) rfl rfl rfl (by omega) ?_
      refine Plan.convIU .u8 (a := (1 + x_66)) FSealRefuses.u5 FSealRefuses.some3 rfl rfl ?_
      refine Plan.xorU .u8 (X := (lit (([] : List Byte) ++ x_32) x_59.toNat)) (Y := (BitVec.ofInt 8 (1 + x_66))) rfl rfl rfl ?_
      obtain ⟨hc69, hR⟩ := hR
      refine Plan.idxVS (j := x_59.toNat) h67 (ho55.bx 0 rfl) FSealRefuses.sl24 rfl rfl (congrArg (Value.int .i64) (Int.toNat_of_nonneg hc69.1).symm) (by omega) ?_
      refine Plan.storeO (j := x_59.toNat) (Y := ((lit (([] : List Byte) ++ x_32) x_59.toNat) ^^^ (BitVec.ofInt 8 (1 + x_66)))) h67 0 ho55 rfl rfl rfl rfl (by omega) FSealRefuses.sz5 rfl fun w70 F70 ho70 h70 => ?_
      simp only [List.cons_append, List.nil_append, List.set_cons_zero, List.set_cons_succ] at h70
      have e70 : ((([] : List Byte) ++ x_32).set x_59.toNat ((lit (([] : List Byte) ++ x_32) x_59.toNat) ^^^ (BitVec.ofInt 8 (1 + x_66)))).length = (([] : List Byte) ++ x_32).length := List.length_set
      refine Plan.nil ?_
      refine hK61 _ _ ?_; clear hK61
      refine W.seq_k fun K71 hK71 => ?_
      refine W.regionT [(0, true), (1, true), (2, true), (3, false), (4, true), (5, true), (6, true), (7, true), (8, true)] (by kernel_rfl) ?_
      refine Plan.loadA1 h70 3 rfl rfl rfl FSealRefuses.agg23 ?_
      refine Plan.move_slice rfl rfl ?_
      refine Plan.move_slice rfl rfl ?_
      obtain ⟨x_73, x_74, hr72, hR⟩ := hR
      refine Plan.call (vs := [AG [(32, fun q => VU .u8 (key1 q))], .slice ay0_14 x_13.length cy0_16, .slice a55 ((([] : List Byte) ++ x_32).length) cap55]) rfl FSealRefuses.call12 rfl (seal_Open_ok (iG0 := iG0 + 4) hG0 (iG1 := iG1 + 4) hG1 ((Bx.unapp (D := [_, _]) hf17_0).app [_, _, _, _]) (by exact ((show Ow _ _ ((([] : List Byte) ++ x_32).length) _ _ _ from ho70).bx 0 rfl)) hr72 h70) ?_
      rintro _ w80 ⟨ay0_75, py0_76, ny0_77, cy0_78, Fy0_79, rfl, h80, hf80_0⟩
      obtain rfl := hf80_0.hl
      refine ⟨_, rfl, .inr ⟨rfl, ?_⟩⟩
      refine Plan.move_tuple rfl rfl ?_
      refine Plan.extract_slice rfl rfl rfl ?_
      refine Plan.extract_int rfl rfl rfl ?_
      refine Plan.assign_slice rfl rfl ?_
      refine Plan.assign_int rfl rfl ?_
      refine Plan.nil ?_
      refine hK71 _ _ ?_; clear hK71
      refine W.seq_k fun K81 hK81 => ?_
      obtain ⟨ok88, s86, b87, hX88, hR088⟩ := hR
      refine W.cutN (fun e w => ∃ y_s86 : List Byte, ∃ y_b87 : List Byte, (ok88 = true ∧ s86 = y_s86 ∧ b87 = y_b87) ∧ ∃ as86 : Option Addr, ∃ ps86 : Option Nat, ∃ cs86 : Nat, ∃ Fs86 : Nat → Byte, ∃ ab87 : Option Addr, ∃ pb87 : Option Nat, ∃ cb87 : Nat, ∃ Fb87 : Nat → Byte, EnvHas e [(1, .slice ay0_14 x_13.length cy0_16), (4, .slice ay0_26 x_25.length cy0_28), (7, .pointer (some ⟨b9, 0, none⟩)), (10, .pointer (some ⟨b10, 0, none⟩)), (15, .slice as86 x_32.length cs86), (17, .slice ab87 ((([] : List Byte) ++ x_32).length) cb87), (20, VN x_74)] ∧ St B w0 (⟨ps86, 0, cs86, fun q => VU .u8 (Fs86 q), true⟩ :: ⟨pb87, 0, cb87, fun q => VU .u8 (Fb87 q), true⟩ :: ⟨some b10, 0, 32, fun q => VU .u8 (other4 q), true⟩ :: ⟨some b9, 0, 32, fun q => VU .u8 (key1 q), true⟩ :: L) w ∧ Ow as86 ps86 x_32.length cs86 Fs86 y_s86 ∧ Ow ab87 pb87 ((([] : List Byte) ++ x_32).length) cb87 Fb87 y_b87) ?_ ?_
      ·
        replace hR := hX88
        refine W.seq_k fun K89 hK89 => ?_
        refine W.regionT [(0, true), (1, true), (2, true), (3, true), (4, true), (5, true), (6, true), (7, true)] (by kernel_rfl) ?_
        refine Plan.move_int rfl rfl ?_
        refine Plan.move_slice rfl rfl ?_
        refine Plan.len FSealRefuses.isl24 rfl rfl ?_
        by_cases hc90 : ((x_19.length : Nat) : Int) ≤ x_59
        ·
          replace hR := ifT hR hc90
          refine Plan.cmpV (a := (x_59 : Int)) (b := (((x_19.length : Nat) : Int) : Int)) (p := ((x_19.length : Nat) : Int) ≤ x_59) (v := true) rfl rfl rfl rfl icmp_ge (decide_eq_true hc90) ?_
          refine Plan.move_bool rfl rfl ?_
          refine Plan.move_int rfl rfl ?_
          refine Plan.cmpP (a := (((x_74 : Nat) : Int) : Int)) (b := (50 : Int)) (p := x_74 ≠ 50) rfl rfl rfl rfl icmp_neN ?_
          refine Plan.pickTb rfl rfl rfl ?_
          refine Plan.nil ?_
          refine hK89 _ _ ?_; clear hK89
          by_cases hc91 : x_74 ≠ 50
          ·
            replace hR := ifT hR hc91
            refine W.condT (congrArg Value.bool (decide_eq_true hc91)) ?_
            refine W.seq_k fun K92 hK92 => ?_
            refine W.regionT [(0, true)] (by kernel_rfl) ?_
            refine Plan.assign_bool rfl rfl ?_
            refine Plan.nil ?_
            refine hK92 _ _ ?_; clear hK92
            refine W.ret (thenR_ret (thenR_ret (finR_ret ?_)))
            have h93 := St.pickT (C := [_, _, _, _, _]) h80 [] (by decide)
            simp only [pick, List.filterMap_cons, List.filterMap_nil, List.getElem?_cons_zero, List.getElem?_cons_succ, List.cons_append, List.nil_append] at h93
            replace hR := hR.2
            subst r
            refine RetOk.mk (.tmp_bool rfl .nil) ?_
            exact ⟨rfl, h93⟩
          ·
            replace hR := ifF hR hc91
            refine W.condF (congrArg Value.bool (decide_eq_false hc91)) ?_
            refine W.skip ?_
            have h94 := St.pickT (C := [_, _, _, _, _]) h80 [2, 1, 3, 4] (by decide)
            simp only [pick, List.filterMap_cons, List.filterMap_nil, List.getElem?_cons_zero, List.getElem?_cons_succ, List.cons_append, List.nil_append] at h94
            exact ⟨x_32, ((([] : List Byte) ++ x_32).set x_59.toNat ((lit (([] : List Byte) ++ x_32) x_59.toNat) ^^^ (BitVec.ofInt 8 (1 + x_66)))), hR, ay0_34, py0_35, cy0_37, Fy0_38, a55, pb55, cap55, F70, (EnvHas.cons rfl (EnvHas.cons rfl (EnvHas.cons rfl (EnvHas.cons rfl (EnvHas.cons rfl (EnvHas.cons rfl (EnvHas.cons rfl EnvHas.nil))))))), h94, hf39_0, (show Ow _ _ ((([] : List Byte) ++ x_32).length) _ _ _ from ho70)⟩
        ·
          replace hR := ifF hR hc90
          refine Plan.cmpV (a := (x_59 : Int)) (b := (((x_19.length : Nat) : Int) : Int)) (p := ((x_19.length : Nat) : Int) ≤ x_59) (v := false) rfl rfl rfl rfl icmp_ge (decide_eq_false hc90) ?_
          refine Plan.move_bool rfl rfl ?_
          refine Plan.passed rfl ?_
          refine Plan.passed rfl ?_
          refine Plan.pickFb rfl rfl rfl ?_
          refine Plan.nil ?_
          refine hK89 _ _ ?_; clear hK89
          refine W.condF rfl ?_
          refine W.skip ?_
          have h95 := St.pickT (C := [_, _, _, _, _]) h80 [2, 1, 3, 4] (by decide)
          simp only [pick, List.filterMap_cons, List.filterMap_nil, List.getElem?_cons_zero, List.getElem?_cons_succ, List.cons_append, List.nil_append] at h95
          exact ⟨x_32, ((([] : List Byte) ++ x_32).set x_59.toNat ((lit (([] : List Byte) ++ x_32) x_59.toNat) ^^^ (BitVec.ofInt 8 (1 + x_66)))), hR, ay0_34, py0_35, cy0_37, Fy0_38, a55, pb55, cap55, F70, (EnvHas.cons rfl (EnvHas.cons rfl (EnvHas.cons rfl (EnvHas.cons rfl (EnvHas.cons rfl (EnvHas.cons rfl (EnvHas.cons rfl EnvHas.nil))))))), h95, hf39_0, (show Ow _ _ ((([] : List Byte) ++ x_32).length) _ _ _ from ho70)⟩
      ·
        rintro ev96 wl96 ⟨y_s86, y_b87, ⟨hy96_0, hy96_1, hy96_2⟩, as86, ps86, cs86, Fs86, ab87, pb87, cb87, Fb87, he96, h96, hs86, hb87⟩
        subst hy96_1
        subst hy96_2
        obtain ⟨ev96, rfl⟩ := he96.open
        replace hR := hR088 hy96_0
        refine hK81 _ _ ?_; clear hK81
        refine W.seq_k fun K97 hK97 => ?_
        refine W.regionT [(0, true), (1, true), (2, true), (3, true)] (by kernel_rfl) ?_
        refine Plan.move_slice rfl rfl ?_
        refine Plan.len FSealRefuses.isl24 rfl rfl ?_
        obtain ⟨hc98, hR⟩ := hR
        refine Plan.subI (a := ((x_32.length : Nat) : Int)) (b := 32) rfl rfl rfl (by omega) ?_
        refine Plan.assign_int rfl rfl ?_
        refine Plan.nil ?_
        refine hK97 _ _ ?_; clear hK97
        refine W.seq_k fun K99 hK99 => ?_
        refine W.regionT [(0, true), (1, false), (2, true), (3, true), (4, true), (5, true), (6, true), (7, false), (8, true), (9, true), (10, false), (11, true)] (by kernel_rfl) ?_
        refine Plan.loadA1 h96 3 rfl rfl rfl FSealRefuses.agg23 ?_
        rcases hR with ⟨x_101, x_102, x_103, x_104, hr100, hR⟩ | ⟨x_105, x_106, x_107, x_108, hr100, hR⟩
        ·
          refine Plan.call (vs := [AG [(32, fun q => VU .u8 (key1 q))]]) rfl FSealRefuses.call13 rfl (lethelaw05_three_ok (iG0 := iG0 + 4) hG0 (iG1 := iG1 + 4) hG1 hr100 h96) ?_
          rintro _ w119 ⟨ay0_109, py0_110, ny0_111, cy0_112, Fy0_113, ay1_114, py1_115, ny1_116, cy1_117, Fy1_118, rfl, h119, hf119_0, hf119_1⟩
          obtain rfl := hf119_0.hl
          obtain rfl := hf119_1.hl
          refine ⟨_, rfl, .inr ⟨rfl, ?_⟩⟩
          refine Plan.move_tuple rfl rfl ?_
          refine Plan.extract_slice rfl rfl rfl ?_
          refine Plan.extract_slice rfl rfl rfl ?_
          refine Plan.extract_agg rfl rfl rfl ?_
          refine Plan.extract_bool rfl rfl rfl ?_
          refine Plan.alloc h119 rfl FSealRefuses.z31 PIn.nil fun b120 w120 hb120 h120 => ?_
          simp only [rngs, Nat.zero_add, Nat.reduceAdd, List.cons_append, List.nil_append] at h120
          refine Plan.assign_slice rfl rfl ?_
          refine Plan.assign_slice rfl rfl ?_
          refine Plan.storeA (f' := fun q => VU .u8 (x_103 q)) h120 0 rfl rfl rfl rfl (fun _ _ => rfl) FSealRefuses.sz31 rfl fun w121 h121 => ?_
          simp only [List.cons_append, List.nil_append, List.set_cons_zero, List.set_cons_succ] at h121
          refine Plan.assign_bool rfl rfl ?_
          refine Plan.nil ?_
          refine hK99 _ _ ?_; clear hK99
          refine W.seq_k fun K122 hK122 => ?_
          obtain ⟨ok151, s149, t150, hX151, hR0151⟩ := hR
          refine W.cutN (fun e w => ∃ y_s149 : List Byte, ∃ y_t150 : List Byte, (ok151 = true ∧ s149 = y_s149 ∧ t150 = y_t150) ∧ ∃ as149 : Option Addr, ∃ ps149 : Option Nat, ∃ cs149 : Nat, ∃ Fs149 : Nat → Byte, ∃ at150 : Option Addr, ∃ pt150 : Option Nat, ∃ ct150 : Nat, ∃ Ft150 : Nat → Byte, EnvHas e [(1, .slice ay0_14 x_13.length cy0_16), (4, .slice ay0_26 x_25.length cy0_28), (7, .pointer (some ⟨b9, 0, none⟩)), (10, .pointer (some ⟨b10, 0, none⟩)), (15, .slice as149 x_32.length cs149), (21, .int .i64 (((x_32.length : Nat) : Int) - 32)), (23, .slice at150 x_102.length ct150)] ∧ St B w0 (⟨ps149, 0, cs149, fun q => VU .u8 (Fs149 q), true⟩ :: ⟨pt150, 0, ct150, fun q => VU .u8 (Ft150 q), true⟩ :: ⟨some b10, 0, 32, fun q => VU .u8 (other4 q), true⟩ :: ⟨some b9, 0, 32, fun q => VU .u8 (key1 q), true⟩ :: L) w ∧ Ow as149 ps149 x_32.length cs149 Fs149 y_s149 ∧ Ow at150 pt150 x_102.length ct150 Ft150 y_t150) ?_ ?_
          ·
            replace hR := hX151
            refine W.seq_k fun K152 hK152 => ?_
            refine W.regionD FSealRefuses.mixed [(0, true), (1, true), (2, true), (3, true), (4, true), (5, true), (6, true), (7, true), (8, true), (9, true), (11, true), (12, true), (13, true), (10, false), (14, false), (15, true), (16, true), (17, true), (18, true), (19, true), (20, true), (21, true), (22, true), (23, true), (24, true)] (by kernel_rfl) ?_
            have h153 := h121.drew
            by_cases hc154 : x_104 = true
            ·
              replace hR := ifT hR hc154
              refine Plan.move_bool (b := true) rfl (congrArg Value.bool hc154) ?_
              refine Plan.notT rfl rfl ?_
              refine Plan.move_bool rfl rfl ?_
              refine Plan.move_int rfl rfl ?_
              refine Plan.cmpP (a := (((x_74 : Nat) : Int) : Int)) (b := (0 : Int)) (p := x_74 = 0) rfl rfl rfl rfl icmp_eqN ?_
              refine Plan.move_slice rfl rfl ?_
              refine Plan.move_slice rfl rfl ?_
              refine Plan.move_slice rfl rfl ?_
              refine Plan.move_int rfl rfl ?_
              obtain ⟨hc155, hR⟩ := hR
              obtain ⟨hc156, hR⟩ := hR
              have hm157 := hb87.hc
              refine Plan.slSl (lo := 0) (hi := (((x_32.length : Nat) : Int) - 32).toNat) FSealRefuses.sl24 rfl rfl rfl ⟨_, congrArg (Value.int .i64) (Int.toNat_of_nonneg hc155).symm⟩ (by omega) ?_
              refine Plan.move_slice rfl rfl ?_
              refine Plan.move_int rfl rfl ?_
              obtain ⟨hc158, hR⟩ := hR
              obtain ⟨hc159, hR⟩ := hR
              have hm160 := hb87.hc
              refine Plan.slSl (lo := (((x_32.length : Nat) : Int) - 32).toNat) (hi := (([] : List Byte) ++ x_32).length) FSealRefuses.sl24 rfl rfl ⟨_, congrArg (Value.int .i64) (Int.toNat_of_nonneg hc158).symm⟩ rfl (by omega) ?_
              obtain ⟨x_162, hr161, hR⟩ := hR
              refine Plan.call (vs := [.slice ay1_114 x_102.length cy1_117, .slice ay0_14 x_13.length cy0_16, .slice (if cb87 = 0 then ab87 else (ab87).map (·.add (0 * 1))) ((((x_32.length : Nat) : Int) - 32).toNat - 0) (cb87 - 0)]) rfl FSealRefuses.call15 rfl (lethelaw05_tag_ok (iG0 := iG0 + 7) hG0 (iG1 := iG1 + 7) hG1 (by exact (hf119_1.bx 2 rfl)) ((Bx.unapp (D := [_, _]) hf17_0).app [_, _, _, _, _, _, _]) (by exact ((hb87.bx 4 rfl).seg (lo := 0) (hi := (((x_32.length : Nat) : Int) - 32).toNat) hc156)) hr161 h153) ?_
              rintro _ w168 ⟨ay0_163, py0_164, ny0_165, cy0_166, Fy0_167, rfl, h168, hf168_0⟩
              obtain rfl := hf168_0.hl
              refine ⟨_, rfl, .inl ⟨PIn.keep PIn.nil h168, ?_⟩⟩
              obtain ⟨x_170, hr169, hR⟩ := hR
              refine Plan.call (vs := [.slice ay0_163 x_162.length cy0_166, .slice (if cb87 = (((x_32.length : Nat) : Int) - 32).toNat then ab87 else (ab87).map (·.add (((((x_32.length : Nat) : Int) - 32).toNat) * 1))) ((([] : List Byte) ++ x_32).length - (((x_32.length : Nat) : Int) - 32).toNat) (cb87 - (((x_32.length : Nat) : Int) - 32).toNat)]) rfl FSealRefuses.call14 rfl (lethelaw05_Eq_ok (by exact (hf168_0.bx 0 rfl)) (by exact ((hb87.bx 5 rfl).seg (lo := (((x_32.length : Nat) : Int) - 32).toNat) (hi := (([] : List Byte) ++ x_32).length) hc159)) hr169 h168) ?_
              rintro _ w171 ⟨rfl, h171⟩
              refine ⟨_, rfl, .inl ⟨PIn.keep PIn.nil h171, ?_⟩⟩
              by_cases hc172 : ((decide (x_74 = 0)) != x_170) = true
              ·
                replace hR := ifT hR hc172
                refine Plan.neBoolV (v := true) FSealRefuses.bool4 rfl rfl rfl hc172 ?_
                refine Plan.pickFb rfl rfl rfl ?_
                refine Plan.move_bool rfl rfl ?_
                refine Plan.passed rfl ?_
                refine Plan.passed rfl ?_
                refine Plan.passed rfl ?_
                refine Plan.passed rfl ?_
                refine Plan.passed rfl ?_
                refine Plan.passed rfl ?_
                refine Plan.pickTb rfl rfl rfl ?_
                refine Plan.nil ?_
                refine hK152 _ _ ?_; clear hK152
                refine W.condT rfl ?_
                refine W.seq_k fun K173 hK173 => ?_
                refine W.regionT [(0, true)] (by kernel_rfl) ?_
                refine Plan.assign_bool rfl rfl ?_
                refine Plan.nil ?_
                refine hK173 _ _ ?_; clear hK173
                refine W.ret (thenR_ret (thenR_ret (finR_ret ?_)))
                have h174 := St.pickT (C := [_, _, _, _, _, _, _, _]) h171 [] (by decide)
                simp only [pick, List.filterMap_cons, List.filterMap_nil, List.getElem?_cons_zero, List.getElem?_cons_succ, List.cons_append, List.nil_append] at h174
                replace hR := hR.2
                subst r
                refine RetOk.mk (.tmp_bool rfl .nil) ?_
                exact ⟨rfl, h174⟩
              ·
                replace hR := ifF hR hc172
                refine Plan.neBoolV (v := false) FSealRefuses.bool4 rfl rfl rfl (Bool.eq_false_iff.2 hc172) ?_
                refine Plan.pickFb rfl rfl rfl ?_
                refine Plan.move_bool rfl rfl ?_
                refine Plan.move_int rfl rfl ?_
                by_cases hc175 : x_74 ≠ 0
                ·
                  replace hR := ifT hR hc175
                  refine Plan.cmpV (a := (((x_74 : Nat) : Int) : Int)) (b := (0 : Int)) (p := x_74 ≠ 0) (v := true) rfl rfl rfl rfl icmp_neN (decide_eq_true hc175) ?_
                  refine Plan.move_bool rfl rfl ?_
                  refine Plan.move_int rfl rfl ?_
                  refine Plan.cmpP (a := (((x_74 : Nat) : Int) : Int)) (b := (50 : Int)) (p := x_74 ≠ 50) rfl rfl rfl rfl icmp_neN ?_
                  refine Plan.pickTb rfl rfl rfl ?_
                  refine Plan.pickFb rfl rfl rfl ?_
                  refine Plan.nil ?_
                  refine hK152 _ _ ?_; clear hK152
                  by_cases hc176 : x_74 ≠ 50
                  ·
                    replace hR := ifT hR hc176
                    refine W.condT (congrArg Value.bool (decide_eq_true hc176)) ?_
                    refine W.seq_k fun K177 hK177 => ?_
                    refine W.regionT [(0, true)] (by kernel_rfl) ?_
                    refine Plan.assign_bool rfl rfl ?_
                    refine Plan.nil ?_
                    refine hK177 _ _ ?_; clear hK177
                    refine W.ret (thenR_ret (thenR_ret (finR_ret ?_)))
                    have h178 := St.pickT (C := [_, _, _, _, _, _, _, _]) h171 [] (by decide)
                    simp only [pick, List.filterMap_cons, List.filterMap_nil, List.getElem?_cons_zero, List.getElem?_cons_succ, List.cons_append, List.nil_append] at h178
                    replace hR := hR.2
                    subst r
                    refine RetOk.mk (.tmp_bool rfl .nil) ?_
                    exact ⟨rfl, h178⟩
                  ·
                    replace hR := ifF hR hc176
                    refine W.condF (congrArg Value.bool (decide_eq_false hc176)) ?_
                    refine W.skip ?_
                    have h179 := St.pickT (C := [_, _, _, _, _, _, _, _]) h171 [4, 3, 6, 7] (by decide)
                    simp only [pick, List.filterMap_cons, List.filterMap_nil, List.getElem?_cons_zero, List.getElem?_cons_succ, List.cons_append, List.nil_append] at h179
                    exact ⟨s86, x_102, hR, as86, ps86, cs86, Fs86, ay1_114, py1_115, cy1_117, Fy1_118, (EnvHas.cons rfl (EnvHas.cons rfl (EnvHas.cons rfl (EnvHas.cons rfl (EnvHas.cons rfl (EnvHas.cons rfl (EnvHas.cons rfl EnvHas.nil))))))), h179, hs86, hf119_1⟩
                ·
                  replace hR := ifF hR hc175
                  refine Plan.cmpV (a := (((x_74 : Nat) : Int) : Int)) (b := (0 : Int)) (p := x_74 ≠ 0) (v := false) rfl rfl rfl rfl icmp_neN (decide_eq_false hc175) ?_
                  refine Plan.move_bool rfl rfl ?_
                  refine Plan.passed rfl ?_
                  refine Plan.passed rfl ?_
                  refine Plan.pickFb rfl rfl rfl ?_
                  refine Plan.pickFb rfl rfl rfl ?_
                  refine Plan.nil ?_
                  refine hK152 _ _ ?_; clear hK152
                  refine W.condF rfl ?_
                  refine W.skip ?_
                  have h180 := St.pickT (C := [_, _, _, _, _, _, _, _]) h171 [4, 3, 6, 7] (by decide)
                  simp only [pick, List.filterMap_cons, List.filterMap_nil, List.getElem?_cons_zero, List.getElem?_cons_succ, List.cons_append, List.nil_append] at h180
                  exact ⟨s86, x_102, hR, as86, ps86, cs86, Fs86, ay1_114, py1_115, cy1_117, Fy1_118, (EnvHas.cons rfl (EnvHas.cons rfl (EnvHas.cons rfl (EnvHas.cons rfl (EnvHas.cons rfl (EnvHas.cons rfl (EnvHas.cons rfl EnvHas.nil))))))), h180, hs86, hf119_1⟩
            ·
              replace hR := ifF hR hc154
              refine Plan.move_bool (b := false) rfl (congrArg Value.bool (Bool.eq_false_iff.2 hc154)) ?_
              refine Plan.notF rfl rfl ?_
              refine Plan.move_bool rfl rfl ?_
              refine Plan.passed rfl ?_
              refine Plan.passed rfl ?_
              refine Plan.passed rfl ?_
              refine Plan.passed rfl ?_
              refine Plan.passed rfl ?_
              refine Plan.passed rfl ?_
              refine Plan.passed rfl ?_
              refine Plan.passed rfl ?_
              refine Plan.passed rfl ?_
              refine Plan.passed rfl ?_
              refine Plan.passed rfl ?_
              refine Plan.passed rfl ?_
              refine Plan.passed rfl ?_
              refine Plan.pickTb rfl rfl rfl ?_
              refine Plan.move_bool rfl rfl ?_
              refine Plan.passed rfl ?_
              refine Plan.passed rfl ?_
              refine Plan.passed rfl ?_
              refine Plan.passed rfl ?_
              refine Plan.passed rfl ?_
              refine Plan.passed rfl ?_
              refine Plan.pickTb rfl rfl rfl ?_
              refine Plan.nil ?_
              refine hK152 _ _ ?_; clear hK152
              refine W.condT rfl ?_
              refine W.seq_k fun K181 hK181 => ?_
              refine W.regionT [(0, true)] (by kernel_rfl) ?_
              refine Plan.assign_bool rfl rfl ?_
              refine Plan.nil ?_
              refine hK181 _ _ ?_; clear hK181
              refine W.ret (thenR_ret (thenR_ret (finR_ret ?_)))
              have h182 := St.pickT (C := [_, _, _, _, _, _, _]) h153 [] (by decide)
              simp only [pick, List.filterMap_cons, List.filterMap_nil, List.getElem?_cons_zero, List.getElem?_cons_succ, List.cons_append, List.nil_append] at h182
              replace hR := hR.2
              subst r
              refine RetOk.mk (.tmp_bool rfl .nil) ?_
              exact ⟨rfl, h182⟩
          ·
            rintro ev183 wl183 ⟨y_s149, y_t150, ⟨hy183_0, hy183_1, hy183_2⟩, as149, ps149, cs149, Fs149, at150, pt150, ct150, Ft150, he183, h183, hs149, ht150⟩
            subst hy183_1
            subst hy183_2
            obtain ⟨ev183, rfl⟩ := he183.open
            replace hR := hR0151 hy183_0
            refine hK122 _ _ ?_; clear hK122
            refine W.seq_k fun K184 hK184 => ?_
            refine W.regionT [(0, true), (1, true), (2, true), (3, false), (4, true), (5, true), (6, true), (7, true), (8, true)] (by kernel_rfl) ?_
            refine Plan.loadA1 h183 3 rfl rfl rfl FSealRefuses.agg23 ?_
            refine Plan.move_slice rfl rfl ?_
            refine Plan.move_slice rfl rfl ?_
            obtain ⟨x_186, x_187, hr185, hR⟩ := hR
            refine Plan.call (vs := [AG [(32, fun q => VU .u8 (key1 q))], .slice ay0_26 x_25.length cy0_28, .slice as149 x_32.length cs149]) rfl FSealRefuses.call12 rfl (seal_Open_ok (iG0 := iG0 + 4) hG0 (iG1 := iG1 + 4) hG1 ((Bx.unapp (D := [_, _]) hf29_0).app [_, _, _, _]) (by exact (hs149.bx 0 rfl)) hr185 h183) ?_
            rintro _ w193 ⟨ay0_188, py0_189, ny0_190, cy0_191, Fy0_192, rfl, h193, hf193_0⟩
            obtain rfl := hf193_0.hl
            refine ⟨_, rfl, .inr ⟨rfl, ?_⟩⟩
            refine Plan.move_tuple rfl rfl ?_
            refine Plan.extract_slice rfl rfl rfl ?_
            refine Plan.extract_int rfl rfl rfl ?_
            refine Plan.assign_slice rfl rfl ?_
            refine Plan.assign_int rfl rfl ?_
            refine Plan.nil ?_
            refine hK184 _ _ ?_; clear hK184
            refine W.seq_k fun K194 hK194 => ?_
            obtain ⟨ok220, s219, hX220, hR0220⟩ := hR
            refine W.cutN (fun e w => ∃ y_s219 : List Byte, (ok220 = true ∧ s219 = y_s219) ∧ ∃ as219 : Option Addr, ∃ ps219 : Option Nat, ∃ cs219 : Nat, ∃ Fs219 : Nat → Byte, EnvHas e [(1, .slice ay0_14 x_13.length cy0_16), (10, .pointer (some ⟨b10, 0, none⟩)), (15, .slice as219 x_32.length cs219), (21, .int .i64 (((x_32.length : Nat) : Int) - 32))] ∧ St B w0 (⟨ps219, 0, cs219, fun q => VU .u8 (Fs219 q), true⟩ :: ⟨some b10, 0, 32, fun q => VU .u8 (other4 q), true⟩ :: L) w ∧ Ow as219 ps219 x_32.length cs219 Fs219 y_s219) ?_ ?_
            ·
              replace hR := hX220
              refine W.seq_k fun K221 hK221 => ?_
              refine W.regionD FSealRefuses.mixed [(0, true), (1, true), (2, true), (3, true), (4, true), (5, true), (6, true), (8, true), (9, true), (10, true), (7, false), (11, false), (12, true), (13, true), (14, true), (15, true), (16, true), (17, true), (18, true), (19, true), (20, true)] (by kernel_rfl) ?_
              have h222 := h193.drew
              refine Plan.move_int rfl rfl ?_
              refine Plan.cmpP (a := (((x_187 : Nat) : Int) : Int)) (b := (0 : Int)) (p := x_187 = 0) rfl rfl rfl rfl icmp_eqN ?_
              refine Plan.move_slice rfl rfl ?_
              refine Plan.move_slice rfl rfl ?_
              refine Plan.move_slice rfl rfl ?_
              refine Plan.move_int rfl rfl ?_
              obtain ⟨hc223, hR⟩ := hR
              obtain ⟨hc224, hR⟩ := hR
              have hm225 := hs149.hc
              refine Plan.slSl (lo := 0) (hi := (((x_32.length : Nat) : Int) - 32).toNat) FSealRefuses.sl24 rfl rfl rfl ⟨_, congrArg (Value.int .i64) (Int.toNat_of_nonneg hc223).symm⟩ (by omega) ?_
              refine Plan.move_slice rfl rfl ?_
              refine Plan.move_int rfl rfl ?_
              obtain ⟨hc226, hR⟩ := hR
              obtain ⟨hc227, hR⟩ := hR
              have hm228 := hs149.hc
              refine Plan.slSl (lo := (((x_32.length : Nat) : Int) - 32).toNat) (hi := x_32.length) FSealRefuses.sl24 rfl rfl ⟨_, congrArg (Value.int .i64) (Int.toNat_of_nonneg hc226).symm⟩ rfl (by omega) ?_
              obtain ⟨x_230, hr229, hR⟩ := hR
              refine Plan.call (vs := [.slice at150 x_102.length ct150, .slice ay0_26 x_25.length cy0_28, .slice (if cs149 = 0 then as149 else (as149).map (·.add (0 * 1))) ((((x_32.length : Nat) : Int) - 32).toNat - 0) (cs149 - 0)]) rfl FSealRefuses.call15 rfl (lethelaw05_tag_ok (iG0 := iG0 + 5) hG0 (iG1 := iG1 + 5) hG1 (by exact (ht150.bx 2 rfl)) ((Bx.unapp (D := [_, _]) hf29_0).app [_, _, _, _, _]) (by exact ((hs149.bx 1 rfl).seg (lo := 0) (hi := (((x_32.length : Nat) : Int) - 32).toNat) hc224)) hr229 h222) ?_
              rintro _ w236 ⟨ay0_231, py0_232, ny0_233, cy0_234, Fy0_235, rfl, h236, hf236_0⟩
              obtain rfl := hf236_0.hl
              refine ⟨_, rfl, .inl ⟨PIn.keep PIn.nil h236, ?_⟩⟩
              obtain ⟨x_238, hr237, hR⟩ := hR
              refine Plan.call (vs := [.slice ay0_231 x_230.length cy0_234, .slice (if cs149 = (((x_32.length : Nat) : Int) - 32).toNat then as149 else (as149).map (·.add (((((x_32.length : Nat) : Int) - 32).toNat) * 1))) (x_32.length - (((x_32.length : Nat) : Int) - 32).toNat) (cs149 - (((x_32.length : Nat) : Int) - 32).toNat)]) rfl FSealRefuses.call14 rfl (lethelaw05_Eq_ok (by exact (hf236_0.bx 0 rfl)) (by exact ((hs149.bx 2 rfl).seg (lo := (((x_32.length : Nat) : Int) - 32).toNat) (hi := x_32.length) hc227)) hr237 h236) ?_
              rintro _ w239 ⟨rfl, h239⟩
              refine ⟨_, rfl, .inl ⟨PIn.keep PIn.nil h239, ?_⟩⟩
              by_cases hc240 : ((decide (x_187 = 0)) != x_238) = true
              ·
                replace hR := ifT hR hc240
                refine Plan.neBoolV (v := true) FSealRefuses.bool4 rfl rfl rfl hc240 ?_
                refine Plan.move_bool rfl rfl ?_
                refine Plan.passed rfl ?_
                refine Plan.passed rfl ?_
                refine Plan.passed rfl ?_
                refine Plan.passed rfl ?_
                refine Plan.passed rfl ?_
                refine Plan.passed rfl ?_
                refine Plan.pickTb rfl rfl rfl ?_
                refine Plan.nil ?_
                refine hK221 _ _ ?_; clear hK221
                refine W.condT rfl ?_
                refine W.seq_k fun K241 hK241 => ?_
                refine W.regionT [(0, true)] (by kernel_rfl) ?_
                refine Plan.assign_bool rfl rfl ?_
                refine Plan.nil ?_
                refine hK241 _ _ ?_; clear hK241
                refine W.ret (thenR_ret (thenR_ret (finR_ret ?_)))
                have h242 := St.pickT (C := [_, _, _, _, _, _]) h239 [] (by decide)
                simp only [pick, List.filterMap_cons, List.filterMap_nil, List.getElem?_cons_zero, List.getElem?_cons_succ, List.cons_append, List.nil_append] at h242
                replace hR := hR.2
                subst r
                refine RetOk.mk (.tmp_bool rfl .nil) ?_
                exact ⟨rfl, h242⟩
              ·
                replace hR := ifF hR hc240
                refine Plan.neBoolV (v := false) FSealRefuses.bool4 rfl rfl rfl (Bool.eq_false_iff.2 hc240) ?_
                refine Plan.move_bool rfl rfl ?_
                refine Plan.move_int rfl rfl ?_
                by_cases hc243 : x_187 ≠ 0
                ·
                  replace hR := ifT hR hc243
                  refine Plan.cmpV (a := (((x_187 : Nat) : Int) : Int)) (b := (0 : Int)) (p := x_187 ≠ 0) (v := true) rfl rfl rfl rfl icmp_neN (decide_eq_true hc243) ?_
                  refine Plan.move_bool rfl rfl ?_
                  refine Plan.move_int rfl rfl ?_
                  refine Plan.cmpP (a := (((x_187 : Nat) : Int) : Int)) (b := (50 : Int)) (p := x_187 ≠ 50) rfl rfl rfl rfl icmp_neN ?_
                  refine Plan.pickTb rfl rfl rfl ?_
                  refine Plan.pickFb rfl rfl rfl ?_
                  refine Plan.nil ?_
                  refine hK221 _ _ ?_; clear hK221
                  by_cases hc244 : x_187 ≠ 50
                  ·
                    replace hR := ifT hR hc244
                    refine W.condT (congrArg Value.bool (decide_eq_true hc244)) ?_
                    refine W.seq_k fun K245 hK245 => ?_
                    refine W.regionT [(0, true)] (by kernel_rfl) ?_
                    refine Plan.assign_bool rfl rfl ?_
                    refine Plan.nil ?_
                    refine hK245 _ _ ?_; clear hK245
                    refine W.ret (thenR_ret (thenR_ret (finR_ret ?_)))
                    have h246 := St.pickT (C := [_, _, _, _, _, _]) h239 [] (by decide)
                    simp only [pick, List.filterMap_cons, List.filterMap_nil, List.getElem?_cons_zero, List.getElem?_cons_succ, List.cons_append, List.nil_append] at h246
                    replace hR := hR.2
                    subst r
                    refine RetOk.mk (.tmp_bool rfl .nil) ?_
                    exact ⟨rfl, h246⟩
                  ·
                    replace hR := ifF hR hc244
                    refine W.condF (congrArg Value.bool (decide_eq_false hc244)) ?_
                    refine W.skip ?_
                    have h247 := St.pickT (C := [_, _, _, _, _, _]) h239 [2, 4] (by decide)
                    simp only [pick, List.filterMap_cons, List.filterMap_nil, List.getElem?_cons_zero, List.getElem?_cons_succ, List.cons_append, List.nil_append] at h247
                    exact ⟨s149, hR, as149, ps149, cs149, Fs149, (EnvHas.cons rfl (EnvHas.cons rfl (EnvHas.cons rfl (EnvHas.cons rfl EnvHas.nil)))), h247, hs149⟩
                ·
                  replace hR := ifF hR hc243
                  refine Plan.cmpV (a := (((x_187 : Nat) : Int) : Int)) (b := (0 : Int)) (p := x_187 ≠ 0) (v := false) rfl rfl rfl rfl icmp_neN (decide_eq_false hc243) ?_
                  refine Plan.move_bool rfl rfl ?_
                  refine Plan.passed rfl ?_
                  refine Plan.passed rfl ?_
                  refine Plan.pickFb rfl rfl rfl ?_
                  refine Plan.pickFb rfl rfl rfl ?_
                  refine Plan.nil ?_
                  refine hK221 _ _ ?_; clear hK221
                  refine W.condF rfl ?_
                  refine W.skip ?_
                  have h248 := St.pickT (C := [_, _, _, _, _, _]) h239 [2, 4] (by decide)
                  simp only [pick, List.filterMap_cons, List.filterMap_nil, List.getElem?_cons_zero, List.getElem?_cons_succ, List.cons_append, List.nil_append] at h248
                  exact ⟨s149, hR, as149, ps149, cs149, Fs149, (EnvHas.cons rfl (EnvHas.cons rfl (EnvHas.cons rfl (EnvHas.cons rfl EnvHas.nil)))), h248, hs149⟩
            ·
              rintro ev249 wl249 ⟨y_s219, ⟨hy249_0, hy249_1⟩, as219, ps219, cs219, Fs219, he249, h249, hs219⟩
              subst hy249_1
              obtain ⟨ev249, rfl⟩ := he249.open
              replace hR := hR0220 hy249_0
              refine hK194 _ _ ?_; clear hK194
              refine W.seq_k fun K250 hK250 => ?_
              refine W.regionT [(0, true), (1, true), (2, true), (3, false), (4, true), (5, true), (6, true), (7, true), (8, true)] (by kernel_rfl) ?_
              refine Plan.loadA1 h249 1 rfl rfl rfl FSealRefuses.agg23 ?_
              refine Plan.move_slice rfl rfl ?_
              refine Plan.move_slice rfl rfl ?_
              obtain ⟨x_252, x_253, hr251, hR⟩ := hR
              refine Plan.call (vs := [AG [(32, fun q => VU .u8 (other4 q))], .slice ay0_14 x_13.length cy0_16, .slice as219 x_32.length cs219]) rfl FSealRefuses.call12 rfl (seal_Open_ok (iG0 := iG0 + 2) hG0 (iG1 := iG1 + 2) hG1 ((Bx.unapp (D := [_, _]) hf17_0).app [_, _]) (by exact (hs219.bx 0 rfl)) hr251 h249) ?_
              rintro _ w259 ⟨ay0_254, py0_255, ny0_256, cy0_257, Fy0_258, rfl, h259, hf259_0⟩
              obtain rfl := hf259_0.hl
              refine ⟨_, rfl, .inr ⟨rfl, ?_⟩⟩
              refine Plan.move_tuple rfl rfl ?_
              refine Plan.extract_slice rfl rfl rfl ?_
              refine Plan.extract_int rfl rfl rfl ?_
              refine Plan.assign_slice rfl rfl ?_
              refine Plan.assign_int rfl rfl ?_
              refine Plan.nil ?_
              refine hK250 _ _ ?_; clear hK250
              refine W.seq_k fun K260 hK260 => ?_
              refine W.regionT [(0, true), (1, false), (2, true), (3, true), (4, true), (5, true), (6, true), (7, false), (8, true), (9, true), (10, false), (11, true)] (by kernel_rfl) ?_
              refine Plan.loadA1 h259 2 rfl rfl rfl FSealRefuses.agg23 ?_
              rcases hR with ⟨x_262, x_263, x_264, x_265, hr261, hR⟩ | ⟨x_266, x_267, x_268, x_269, hr261, hR⟩
              ·
                refine Plan.call (vs := [AG [(32, fun q => VU .u8 (other4 q))]]) rfl FSealRefuses.call13 rfl (lethelaw05_three_ok (iG0 := iG0 + 3) hG0 (iG1 := iG1 + 3) hG1 hr261 h259) ?_
                rintro _ w280 ⟨ay0_270, py0_271, ny0_272, cy0_273, Fy0_274, ay1_275, py1_276, ny1_277, cy1_278, Fy1_279, rfl, h280, hf280_0, hf280_1⟩
                obtain rfl := hf280_0.hl
                obtain rfl := hf280_1.hl
                refine ⟨_, rfl, .inr ⟨rfl, ?_⟩⟩
                refine Plan.move_tuple rfl rfl ?_
                refine Plan.extract_slice rfl rfl rfl ?_
                refine Plan.extract_slice rfl rfl rfl ?_
                refine Plan.extract_agg rfl rfl rfl ?_
                refine Plan.extract_bool rfl rfl rfl ?_
                refine Plan.alloc h280 rfl FSealRefuses.z31 PIn.nil fun b281 w281 hb281 h281 => ?_
                simp only [rngs, Nat.zero_add, Nat.reduceAdd, List.cons_append, List.nil_append] at h281
                refine Plan.assign_slice rfl rfl ?_
                refine Plan.assign_slice rfl rfl ?_
                refine Plan.storeA (f' := fun q => VU .u8 (x_264 q)) h281 0 rfl rfl rfl rfl (fun _ _ => rfl) FSealRefuses.sz31 rfl fun w282 h282 => ?_
                simp only [List.cons_append, List.nil_append, List.set_cons_zero, List.set_cons_succ] at h282
                refine Plan.assign_bool rfl rfl ?_
                refine Plan.nil ?_
                refine hK260 _ _ ?_; clear hK260
                refine W.seq_k fun K283 hK283 => ?_
                refine W.regionD FSealRefuses.mixed [(0, true), (1, true), (2, true), (3, true), (4, true), (5, true), (6, true), (7, true), (8, true), (10, true), (11, true), (12, true), (9, false), (13, false), (14, true), (15, true), (16, true), (17, true), (18, true), (19, true), (20, true), (21, true), (22, true), (23, true), (24, true)] (by kernel_rfl) ?_
                have h284 := h282.drew
                by_cases hc285 : x_265 = true
                ·
                  replace hR := ifT hR hc285
                  refine Plan.move_bool (b := true) rfl (congrArg Value.bool hc285) ?_
                  refine Plan.move_bool rfl rfl ?_
                  refine Plan.move_int rfl rfl ?_
                  refine Plan.cmpP (a := (((x_253 : Nat) : Int) : Int)) (b := (0 : Int)) (p := x_253 = 0) rfl rfl rfl rfl icmp_eqN ?_
                  refine Plan.move_slice rfl rfl ?_
                  refine Plan.move_slice rfl rfl ?_
                  refine Plan.move_slice rfl rfl ?_
                  refine Plan.move_int rfl rfl ?_
                  obtain ⟨hc286, hR⟩ := hR
                  obtain ⟨hc287, hR⟩ := hR
                  have hm288 := hs219.hc
                  refine Plan.slSl (lo := 0) (hi := (((x_32.length : Nat) : Int) - 32).toNat) FSealRefuses.sl24 rfl rfl rfl ⟨_, congrArg (Value.int .i64) (Int.toNat_of_nonneg hc286).symm⟩ (by omega) ?_
                  refine Plan.move_slice rfl rfl ?_
                  refine Plan.move_int rfl rfl ?_
                  obtain ⟨hc289, hR⟩ := hR
                  obtain ⟨hc290, hR⟩ := hR
                  have hm291 := hs219.hc
                  refine Plan.slSl (lo := (((x_32.length : Nat) : Int) - 32).toNat) (hi := x_32.length) FSealRefuses.sl24 rfl rfl ⟨_, congrArg (Value.int .i64) (Int.toNat_of_nonneg hc289).symm⟩ rfl (by omega) ?_
                  obtain ⟨x_293, hr292, hR⟩ := hR
                  refine Plan.call (vs := [.slice ay1_275 x_263.length cy1_278, .slice ay0_14 x_13.length cy0_16, .slice (if cs219 = 0 then as219 else (as219).map (·.add (0 * 1))) ((((x_32.length : Nat) : Int) - 32).toNat - 0) (cs219 - 0)]) rfl FSealRefuses.call15 rfl (lethelaw05_tag_ok (iG0 := iG0 + 6) hG0 (iG1 := iG1 + 6) hG1 (by exact (hf280_1.bx 2 rfl)) ((Bx.unapp (D := [_, _]) hf17_0).app [_, _, _, _, _, _]) (by exact ((hs219.bx 4 rfl).seg (lo := 0) (hi := (((x_32.length : Nat) : Int) - 32).toNat) hc287)) hr292 h284) ?_
                  rintro _ w299 ⟨ay0_294, py0_295, ny0_296, cy0_297, Fy0_298, rfl, h299, hf299_0⟩
                  obtain rfl := hf299_0.hl
                  refine ⟨_, rfl, .inl ⟨PIn.keep PIn.nil h299, ?_⟩⟩
                  obtain ⟨x_301, hr300, hR⟩ := hR
                  refine Plan.call (vs := [.slice ay0_294 x_293.length cy0_297, .slice (if cs219 = (((x_32.length : Nat) : Int) - 32).toNat then as219 else (as219).map (·.add (((((x_32.length : Nat) : Int) - 32).toNat) * 1))) (x_32.length - (((x_32.length : Nat) : Int) - 32).toNat) (cs219 - (((x_32.length : Nat) : Int) - 32).toNat)]) rfl FSealRefuses.call14 rfl (lethelaw05_Eq_ok (by exact (hf299_0.bx 0 rfl)) (by exact ((hs219.bx 5 rfl).seg (lo := (((x_32.length : Nat) : Int) - 32).toNat) (hi := x_32.length) hc290)) hr300 h299) ?_
                  rintro _ w302 ⟨rfl, h302⟩
                  refine ⟨_, rfl, .inl ⟨PIn.keep PIn.nil h302, ?_⟩⟩
                  by_cases hc303 : ((decide (x_253 = 0)) == x_301) = true
                  ·
                    replace hR := ifT hR hc303
                    refine Plan.eqBoolV (v := true) FSealRefuses.bool4 rfl rfl rfl hc303 ?_
                    refine Plan.pickTb rfl rfl rfl ?_
                    refine Plan.move_bool rfl rfl ?_
                    refine Plan.move_int rfl rfl ?_
                    by_cases hc304 : x_253 = 0
                    ·
                      replace hR := ifT hR hc304
                      refine Plan.cmpV (a := (((x_253 : Nat) : Int) : Int)) (b := (0 : Int)) (p := x_253 = 0) (v := true) rfl rfl rfl rfl icmp_eqN (decide_eq_true hc304) ?_
                      refine Plan.move_bool rfl rfl ?_
                      refine Plan.passed rfl ?_
                      refine Plan.passed rfl ?_
                      refine Plan.pickTb rfl rfl rfl ?_
                      refine Plan.pickTb rfl rfl rfl ?_
                      refine Plan.assign_bool rfl rfl ?_
                      refine Plan.nil ?_
                      refine hK283 _ _ ?_; clear hK283
                      refine W.ret (finR_ret ?_)
                      have h305 := St.pickT (C := [_, _, _, _, _, _, _]) h302 [] (by decide)
                      simp only [pick, List.filterMap_cons, List.filterMap_nil, List.getElem?_cons_zero, List.getElem?_cons_succ, List.cons_append, List.nil_append] at h305
                      subst r
                      refine RetOk.mk (.tmp_bool rfl .nil) ?_
                      exact ⟨rfl, h305⟩
                    ·
                      replace hR := ifF hR hc304
                      refine Plan.cmpV (a := (((x_253 : Nat) : Int) : Int)) (b := (0 : Int)) (p := x_253 = 0) (v := false) rfl rfl rfl rfl icmp_eqN (decide_eq_false hc304) ?_
                      refine Plan.move_bool rfl rfl ?_
                      refine Plan.move_int rfl rfl ?_
                      refine Plan.cmpP (a := (((x_253 : Nat) : Int) : Int)) (b := (50 : Int)) (p := x_253 = 50) rfl rfl rfl rfl icmp_eqN ?_
                      refine Plan.pickFb rfl rfl rfl ?_
                      refine Plan.pickTb rfl rfl rfl ?_
                      refine Plan.assign_bool rfl rfl ?_
                      refine Plan.nil ?_
                      refine hK283 _ _ ?_; clear hK283
                      refine W.ret (finR_ret ?_)
                      have h306 := St.pickT (C := [_, _, _, _, _, _, _]) h302 [] (by decide)
                      simp only [pick, List.filterMap_cons, List.filterMap_nil, List.getElem?_cons_zero, List.getElem?_cons_succ, List.cons_append, List.nil_append] at h306
                      subst r
                      refine RetOk.mk (.tmp_bool rfl .nil) ?_
                      exact ⟨rfl, h306⟩
                  ·
                    replace hR := ifF hR hc303
                    refine Plan.eqBoolV (v := false) FSealRefuses.bool4 rfl rfl rfl (Bool.eq_false_iff.2 hc303) ?_
                    refine Plan.pickTb rfl rfl rfl ?_
                    refine Plan.move_bool rfl rfl ?_
                    refine Plan.passed rfl ?_
                    refine Plan.passed rfl ?_
                    refine Plan.passed rfl ?_
                    refine Plan.passed rfl ?_
                    refine Plan.passed rfl ?_
                    refine Plan.passed rfl ?_
                    refine Plan.pickFb rfl rfl rfl ?_
                    refine Plan.assign_bool rfl rfl ?_
                    refine Plan.nil ?_
                    refine hK283 _ _ ?_; clear hK283
                    refine W.ret (finR_ret ?_)
                    have h307 := St.pickT (C := [_, _, _, _, _, _, _]) h302 [] (by decide)
                    simp only [pick, List.filterMap_cons, List.filterMap_nil, List.getElem?_cons_zero, List.getElem?_cons_succ, List.cons_append, List.nil_append] at h307
                    subst r
                    refine RetOk.mk (.tmp_bool rfl .nil) ?_
                    exact ⟨rfl, h307⟩
                ·
                  replace hR := ifF hR hc285
                  refine Plan.move_bool (b := false) rfl (congrArg Value.bool (Bool.eq_false_iff.2 hc285)) ?_
                  refine Plan.move_bool rfl rfl ?_
                  refine Plan.passed rfl ?_
                  refine Plan.passed rfl ?_
                  refine Plan.passed rfl ?_
                  refine Plan.passed rfl ?_
                  refine Plan.passed rfl ?_
                  refine Plan.passed rfl ?_
                  refine Plan.passed rfl ?_
                  refine Plan.passed rfl ?_
                  refine Plan.passed rfl ?_
                  refine Plan.passed rfl ?_
                  refine Plan.passed rfl ?_
                  refine Plan.passed rfl ?_
                  refine Plan.passed rfl ?_
                  refine Plan.pickFb rfl rfl rfl ?_
                  refine Plan.move_bool rfl rfl ?_
                  refine Plan.passed rfl ?_
                  refine Plan.passed rfl ?_
                  refine Plan.passed rfl ?_
                  refine Plan.passed rfl ?_
                  refine Plan.passed rfl ?_
                  refine Plan.passed rfl ?_
                  refine Plan.pickFb rfl rfl rfl ?_
                  refine Plan.assign_bool rfl rfl ?_
                  refine Plan.nil ?_
                  refine hK283 _ _ ?_; clear hK283
                  refine W.ret (finR_ret ?_)
                  have h308 := St.pickT (C := [_, _, _, _, _, _]) h284 [] (by decide)
                  simp only [pick, List.filterMap_cons, List.filterMap_nil, List.getElem?_cons_zero, List.getElem?_cons_succ, List.cons_append, List.nil_append] at h308
                  subst r
                  refine RetOk.mk (.tmp_bool rfl .nil) ?_
                  exact ⟨rfl, h308⟩
              ·
                refine Plan.call (vs := [AG [(32, fun q => VU .u8 (other4 q))]]) rfl FSealRefuses.call13 rfl (lethelaw05_three_ok (iG0 := iG0 + 3) hG0 (iG1 := iG1 + 3) hG1 hr261 h259) ?_
                rintro _ w316 ⟨ry0_309, ay0_310, ny0_311, cy0_312, ay1_313, ny1_314, cy1_315, rfl, h316, hf316_0, hf316_1⟩
                obtain rfl := hf316_0.hl
                obtain rfl := hf316_1.hl
                refine ⟨_, rfl, .inr ⟨rfl, ?_⟩⟩
                refine Plan.move_tuple rfl rfl ?_
                refine Plan.extract_slice rfl rfl rfl ?_
                refine Plan.extract_slice rfl rfl rfl ?_
                refine Plan.extract_agg rfl rfl rfl ?_
                refine Plan.extract_bool rfl rfl rfl ?_
                refine Plan.alloc h316 rfl FSealRefuses.z31 PIn.nil fun b317 w317 hb317 h317 => ?_
                simp only [rngs, Nat.zero_add, Nat.reduceAdd, List.cons_append, List.nil_append] at h317
                refine Plan.assign_slice rfl rfl ?_
                refine Plan.assign_slice rfl rfl ?_
                refine Plan.storeA (f' := fun q => VU .u8 (x_268 q)) h317 0 rfl rfl rfl rfl (fun _ _ => rfl) FSealRefuses.sz31 rfl fun w318 h318 => ?_
                simp only [List.cons_append, List.nil_append, List.set_cons_zero, List.set_cons_succ] at h318
                refine Plan.assign_bool rfl rfl ?_
                refine Plan.nil ?_
                refine hK260 _ _ ?_; clear hK260
                refine W.seq_k fun K319 hK319 => ?_
                refine W.regionD FSealRefuses.mixed [(0, true), (1, true), (2, true), (3, true), (4, true), (5, true), (6, true), (7, true), (8, true), (10, true), (11, true), (12, true), (9, false), (13, false), (14, true), (15, true), (16, true), (17, true), (18, true), (19, true), (20, true), (21, true), (22, true), (23, true), (24, true)] (by kernel_rfl) ?_
                have h320 := h318.drew
                by_cases hc321 : x_269 = true
                ·
                  replace hR := ifT hR hc321
                  refine Plan.move_bool (b := true) rfl (congrArg Value.bool hc321) ?_
                  refine Plan.move_bool rfl rfl ?_
                  refine Plan.move_int rfl rfl ?_
                  refine Plan.cmpP (a := (((x_253 : Nat) : Int) : Int)) (b := (0 : Int)) (p := x_253 = 0) rfl rfl rfl rfl icmp_eqN ?_
                  refine Plan.move_slice rfl rfl ?_
                  refine Plan.move_slice rfl rfl ?_
                  refine Plan.move_slice rfl rfl ?_
                  refine Plan.move_int rfl rfl ?_
                  obtain ⟨hc322, hR⟩ := hR
                  obtain ⟨hc323, hR⟩ := hR
                  have hm324 := hs219.hc
                  refine Plan.slSl (lo := 0) (hi := (((x_32.length : Nat) : Int) - 32).toNat) FSealRefuses.sl24 rfl rfl rfl ⟨_, congrArg (Value.int .i64) (Int.toNat_of_nonneg hc322).symm⟩ (by omega) ?_
                  refine Plan.move_slice rfl rfl ?_
                  refine Plan.move_int rfl rfl ?_
                  obtain ⟨hc325, hR⟩ := hR
                  obtain ⟨hc326, hR⟩ := hR
                  have hm327 := hs219.hc
                  refine Plan.slSl (lo := (((x_32.length : Nat) : Int) - 32).toNat) (hi := x_32.length) FSealRefuses.sl24 rfl rfl ⟨_, congrArg (Value.int .i64) (Int.toNat_of_nonneg hc325).symm⟩ rfl (by omega) ?_
                  obtain ⟨x_329, hr328, hR⟩ := hR
                  refine Plan.call (vs := [.slice ay1_313 x_267.length cy1_315, .slice ay0_14 x_13.length cy0_16, .slice (if cs219 = 0 then as219 else (as219).map (·.add (0 * 1))) ((((x_32.length : Nat) : Int) - 32).toNat - 0) (cs219 - 0)]) rfl FSealRefuses.call15 rfl (lethelaw05_tag_ok (iG0 := iG0 + 5) hG0 (iG1 := iG1 + 5) hG1 (by exact (Bx.move (j := 1) hf316_1 rfl rfl)) ((Bx.unapp (D := [_, _]) hf17_0).app [_, _, _, _, _]) (by exact ((hs219.bx 3 rfl).seg (lo := 0) (hi := (((x_32.length : Nat) : Int) - 32).toNat) hc323)) hr328 h320) ?_
                  rintro _ w335 ⟨ay0_330, py0_331, ny0_332, cy0_333, Fy0_334, rfl, h335, hf335_0⟩
                  obtain rfl := hf335_0.hl
                  refine ⟨_, rfl, .inl ⟨PIn.keep PIn.nil h335, ?_⟩⟩
                  obtain ⟨x_337, hr336, hR⟩ := hR
                  refine Plan.call (vs := [.slice ay0_330 x_329.length cy0_333, .slice (if cs219 = (((x_32.length : Nat) : Int) - 32).toNat then as219 else (as219).map (·.add (((((x_32.length : Nat) : Int) - 32).toNat) * 1))) (x_32.length - (((x_32.length : Nat) : Int) - 32).toNat) (cs219 - (((x_32.length : Nat) : Int) - 32).toNat)]) rfl FSealRefuses.call14 rfl (lethelaw05_Eq_ok (by exact (hf335_0.bx 0 rfl)) (by exact ((hs219.bx 4 rfl).seg (lo := (((x_32.length : Nat) : Int) - 32).toNat) (hi := x_32.length) hc326)) hr336 h335) ?_
                  rintro _ w338 ⟨rfl, h338⟩
                  refine ⟨_, rfl, .inl ⟨PIn.keep PIn.nil h338, ?_⟩⟩
                  by_cases hc339 : ((decide (x_253 = 0)) == x_337) = true
                  ·
                    replace hR := ifT hR hc339
                    refine Plan.eqBoolV (v := true) FSealRefuses.bool4 rfl rfl rfl hc339 ?_
                    refine Plan.pickTb rfl rfl rfl ?_
                    refine Plan.move_bool rfl rfl ?_
                    refine Plan.move_int rfl rfl ?_
                    by_cases hc340 : x_253 = 0
                    ·
                      replace hR := ifT hR hc340
                      refine Plan.cmpV (a := (((x_253 : Nat) : Int) : Int)) (b := (0 : Int)) (p := x_253 = 0) (v := true) rfl rfl rfl rfl icmp_eqN (decide_eq_true hc340) ?_
                      refine Plan.move_bool rfl rfl ?_
                      refine Plan.passed rfl ?_
                      refine Plan.passed rfl ?_
                      refine Plan.pickTb rfl rfl rfl ?_
                      refine Plan.pickTb rfl rfl rfl ?_
                      refine Plan.assign_bool rfl rfl ?_
                      refine Plan.nil ?_
                      refine hK319 _ _ ?_; clear hK319
                      refine W.ret (finR_ret ?_)
                      have h341 := St.pickT (C := [_, _, _, _, _, _]) h338 [] (by decide)
                      simp only [pick, List.filterMap_cons, List.filterMap_nil, List.getElem?_cons_zero, List.getElem?_cons_succ, List.cons_append, List.nil_append] at h341
                      subst r
                      refine RetOk.mk (.tmp_bool rfl .nil) ?_
                      exact ⟨rfl, h341⟩
                    ·
                      replace hR := ifF hR hc340
                      refine Plan.cmpV (a := (((x_253 : Nat) : Int) : Int)) (b := (0 : Int)) (p := x_253 = 0) (v := false) rfl rfl rfl rfl icmp_eqN (decide_eq_false hc340) ?_
                      refine Plan.move_bool rfl rfl ?_
                      refine Plan.move_int rfl rfl ?_
                      refine Plan.cmpP (a := (((x_253 : Nat) : Int) : Int)) (b := (50 : Int)) (p := x_253 = 50) rfl rfl rfl rfl icmp_eqN ?_
                      refine Plan.pickFb rfl rfl rfl ?_
                      refine Plan.pickTb rfl rfl rfl ?_
                      refine Plan.assign_bool rfl rfl ?_
                      refine Plan.nil ?_
                      refine hK319 _ _ ?_; clear hK319
                      refine W.ret (finR_ret ?_)
                      have h342 := St.pickT (C := [_, _, _, _, _, _]) h338 [] (by decide)
                      simp only [pick, List.filterMap_cons, List.filterMap_nil, List.getElem?_cons_zero, List.getElem?_cons_succ, List.cons_append, List.nil_append] at h342
                      subst r
                      refine RetOk.mk (.tmp_bool rfl .nil) ?_
                      exact ⟨rfl, h342⟩
                  ·
                    replace hR := ifF hR hc339
                    refine Plan.eqBoolV (v := false) FSealRefuses.bool4 rfl rfl rfl (Bool.eq_false_iff.2 hc339) ?_
                    refine Plan.pickTb rfl rfl rfl ?_
                    refine Plan.move_bool rfl rfl ?_
                    refine Plan.passed rfl ?_
                    refine Plan.passed rfl ?_
                    refine Plan.passed rfl ?_
                    refine Plan.passed rfl ?_
                    refine Plan.passed rfl ?_
                    refine Plan.passed rfl ?_
                    refine Plan.pickFb rfl rfl rfl ?_
                    refine Plan.assign_bool rfl rfl ?_
                    refine Plan.nil ?_
                    refine hK319 _ _ ?_; clear hK319
                    refine W.ret (finR_ret ?_)
                    have h343 := St.pickT (C := [_, _, _, _, _, _]) h338 [] (by decide)
                    simp only [pick, List.filterMap_cons, List.filterMap_nil, List.getElem?_cons_zero, List.getElem?_cons_succ, List.cons_append, List.nil_append] at h343
                    subst r
                    refine RetOk.mk (.tmp_bool rfl .nil) ?_
                    exact ⟨rfl, h343⟩
                ·
                  replace hR := ifF hR hc321
                  refine Plan.move_bool (b := false) rfl (congrArg Value.bool (Bool.eq_false_iff.2 hc321)) ?_
                  refine Plan.move_bool rfl rfl ?_
                  refine Plan.passed rfl ?_
                  refine Plan.passed rfl ?_
                  refine Plan.passed rfl ?_
                  refine Plan.passed rfl ?_
                  refine Plan.passed rfl ?_
                  refine Plan.passed rfl ?_
                  refine Plan.passed rfl ?_
                  refine Plan.passed rfl ?_
                  refine Plan.passed rfl ?_
                  refine Plan.passed rfl ?_
                  refine Plan.passed rfl ?_
                  refine Plan.passed rfl ?_
                  refine Plan.passed rfl ?_
                  refine Plan.pickFb rfl rfl rfl ?_
                  refine Plan.move_bool rfl rfl ?_
                  refine Plan.passed rfl ?_
                  refine Plan.passed rfl ?_
                  refine Plan.passed rfl ?_
                  refine Plan.passed rfl ?_
                  refine Plan.passed rfl ?_
                  refine Plan.passed rfl ?_
                  refine Plan.pickFb rfl rfl rfl ?_
                  refine Plan.assign_bool rfl rfl ?_
                  refine Plan.nil ?_
                  refine hK319 _ _ ?_; clear hK319
                  refine W.ret (finR_ret ?_)
                  have h344 := St.pickT (C := [_, _, _, _, _]) h320 [] (by decide)
                  simp only [pick, List.filterMap_cons, List.filterMap_nil, List.getElem?_cons_zero, List.getElem?_cons_succ, List.cons_append, List.nil_append] at h344
                  subst r
                  refine RetOk.mk (.tmp_bool rfl .nil) ?_
                  exact ⟨rfl, h344⟩
        ·
          refine Plan.call (vs := [AG [(32, fun q => VU .u8 (key1 q))]]) rfl FSealRefuses.call13 rfl (lethelaw05_three_ok (iG0 := iG0 + 4) hG0 (iG1 := iG1 + 4) hG1 hr100 h96) ?_
          rintro _ w352 ⟨ry0_345, ay0_346, ny0_347, cy0_348, ay1_349, ny1_350, cy1_351, rfl, h352, hf352_0, hf352_1⟩
          obtain rfl := hf352_0.hl
          obtain rfl := hf352_1.hl
          refine ⟨_, rfl, .inr ⟨rfl, ?_⟩⟩
          refine Plan.move_tuple rfl rfl ?_
          refine Plan.extract_slice rfl rfl rfl ?_
          refine Plan.extract_slice rfl rfl rfl ?_
          refine Plan.extract_agg rfl rfl rfl ?_
          refine Plan.extract_bool rfl rfl rfl ?_
          refine Plan.alloc h352 rfl FSealRefuses.z31 PIn.nil fun b353 w353 hb353 h353 => ?_
          simp only [rngs, Nat.zero_add, Nat.reduceAdd, List.cons_append, List.nil_append] at h353
          refine Plan.assign_slice rfl rfl ?_
          refine Plan.assign_slice rfl rfl ?_
          refine Plan.storeA (f' := fun q => VU .u8 (x_107 q)) h353 0 rfl rfl rfl rfl (fun _ _ => rfl) FSealRefuses.sz31 rfl fun w354 h354 => ?_
          simp only [List.cons_append, List.nil_append, List.set_cons_zero, List.set_cons_succ] at h354
          refine Plan.assign_bool rfl rfl ?_
          refine Plan.nil ?_
          refine hK99 _ _ ?_; clear hK99
          refine W.seq_k fun K355 hK355 => ?_
          obtain ⟨ok383, s382, hX383, hR0383⟩ := hR
          refine W.cutN (fun e w => ∃ y_s382 : List Byte, (ok383 = true ∧ s382 = y_s382) ∧ ∃ as382 : Option Addr, ∃ ps382 : Option Nat, ∃ cs382 : Nat, ∃ Fs382 : Nat → Byte, EnvHas e [(1, .slice ay0_14 x_13.length cy0_16), (4, .slice ay0_26 x_25.length cy0_28), (7, .pointer (some ⟨b9, 0, none⟩)), (10, .pointer (some ⟨b10, 0, none⟩)), (15, .slice as382 x_32.length cs382), (21, .int .i64 (((x_32.length : Nat) : Int) - 32)), (23, .slice ay1_349 x_106.length cy1_351)] ∧ St B w0 (⟨ps382, 0, cs382, fun q => VU .u8 (Fs382 q), true⟩ :: ry0_345 :: ⟨some b10, 0, 32, fun q => VU .u8 (other4 q), true⟩ :: ⟨some b9, 0, 32, fun q => VU .u8 (key1 q), true⟩ :: L) w ∧ Ow as382 ps382 x_32.length cs382 Fs382 y_s382) ?_ ?_
          ·
            replace hR := hX383
            refine W.seq_k fun K384 hK384 => ?_
            refine W.regionD FSealRefuses.mixed [(0, true), (1, true), (2, true), (3, true), (4, true), (5, true), (6, true), (7, true), (8, true), (9, true), (11, true), (12, true), (13, true), (10, false), (14, false), (15, true), (16, true), (17, true), (18, true), (19, true), (20, true), (21, true), (22, true), (23, true), (24, true)] (by kernel_rfl) ?_
            have h385 := h354.drew
            by_cases hc386 : x_108 = true
            ·
              replace hR := ifT hR hc386
              refine Plan.move_bool (b := true) rfl (congrArg Value.bool hc386) ?_
              refine Plan.notT rfl rfl ?_
              refine Plan.move_bool rfl rfl ?_
              refine Plan.move_int rfl rfl ?_
              refine Plan.cmpP (a := (((x_74 : Nat) : Int) : Int)) (b := (0 : Int)) (p := x_74 = 0) rfl rfl rfl rfl icmp_eqN ?_
              refine Plan.move_slice rfl rfl ?_
              refine Plan.move_slice rfl rfl ?_
              refine Plan.move_slice rfl rfl ?_
              refine Plan.move_int rfl rfl ?_
              obtain ⟨hc387, hR⟩ := hR
              obtain ⟨hc388, hR⟩ := hR
              have hm389 := hb87.hc
              refine Plan.slSl (lo := 0) (hi := (((x_32.length : Nat) : Int) - 32).toNat) FSealRefuses.sl24 rfl rfl rfl ⟨_, congrArg (Value.int .i64) (Int.toNat_of_nonneg hc387).symm⟩ (by omega) ?_
              refine Plan.move_slice rfl rfl ?_
              refine Plan.move_int rfl rfl ?_
              obtain ⟨hc390, hR⟩ := hR
              obtain ⟨hc391, hR⟩ := hR
              have hm392 := hb87.hc
              refine Plan.slSl (lo := (((x_32.length : Nat) : Int) - 32).toNat) (hi := (([] : List Byte) ++ x_32).length) FSealRefuses.sl24 rfl rfl ⟨_, congrArg (Value.int .i64) (Int.toNat_of_nonneg hc390).symm⟩ rfl (by omega) ?_
              obtain ⟨x_394, hr393, hR⟩ := hR
              refine Plan.call (vs := [.slice ay1_349 x_106.length cy1_351, .slice ay0_14 x_13.length cy0_16, .slice (if cb87 = 0 then ab87 else (ab87).map (·.add (0 * 1))) ((((x_32.length : Nat) : Int) - 32).toNat - 0) (cb87 - 0)]) rfl FSealRefuses.call15 rfl (lethelaw05_tag_ok (iG0 := iG0 + 6) hG0 (iG1 := iG1 + 6) hG1 (by exact (Bx.move (j := 1) hf352_1 rfl rfl)) ((Bx.unapp (D := [_, _]) hf17_0).app [_, _, _, _, _, _]) (by exact ((hb87.bx 3 rfl).seg (lo := 0) (hi := (((x_32.length : Nat) : Int) - 32).toNat) hc388)) hr393 h385) ?_
              rintro _ w400 ⟨ay0_395, py0_396, ny0_397, cy0_398, Fy0_399, rfl, h400, hf400_0⟩
              obtain rfl := hf400_0.hl
              refine ⟨_, rfl, .inl ⟨PIn.keep PIn.nil h400, ?_⟩⟩
              obtain ⟨x_402, hr401, hR⟩ := hR
              refine Plan.call (vs := [.slice ay0_395 x_394.length cy0_398, .slice (if cb87 = (((x_32.length : Nat) : Int) - 32).toNat then ab87 else (ab87).map (·.add (((((x_32.length : Nat) : Int) - 32).toNat) * 1))) ((([] : List Byte) ++ x_32).length - (((x_32.length : Nat) : Int) - 32).toNat) (cb87 - (((x_32.length : Nat) : Int) - 32).toNat)]) rfl FSealRefuses.call14 rfl (lethelaw05_Eq_ok (by exact (hf400_0.bx 0 rfl)) (by exact ((hb87.bx 4 rfl).seg (lo := (((x_32.length : Nat) : Int) - 32).toNat) (hi := (([] : List Byte) ++ x_32).length) hc391)) hr401 h400) ?_
              rintro _ w403 ⟨rfl, h403⟩
              refine ⟨_, rfl, .inl ⟨PIn.keep PIn.nil h403, ?_⟩⟩
              by_cases hc404 : ((decide (x_74 = 0)) != x_402) = true
              ·
                replace hR := ifT hR hc404
                refine Plan.neBoolV (v := true) FSealRefuses.bool4 rfl rfl rfl hc404 ?_
                refine Plan.pickFb rfl rfl rfl ?_
                refine Plan.move_bool rfl rfl ?_
                refine Plan.passed rfl ?_
                refine Plan.passed rfl ?_
                refine Plan.passed rfl ?_
                refine Plan.passed rfl ?_
                refine Plan.passed rfl ?_
                refine Plan.passed rfl ?_
                refine Plan.pickTb rfl rfl rfl ?_
                refine Plan.nil ?_
                refine hK384 _ _ ?_; clear hK384
                refine W.condT rfl ?_
                refine W.seq_k fun K405 hK405 => ?_
                refine W.regionT [(0, true)] (by kernel_rfl) ?_
                refine Plan.assign_bool rfl rfl ?_
                refine Plan.nil ?_
                refine hK405 _ _ ?_; clear hK405
                refine W.ret (thenR_ret (thenR_ret (finR_ret ?_)))
                have h406 := St.pickT (C := [_, _, _, _, _, _, _]) h403 [] (by decide)
                simp only [pick, List.filterMap_cons, List.filterMap_nil, List.getElem?_cons_zero, List.getElem?_cons_succ, List.cons_append, List.nil_append] at h406
                replace hR := hR.2
                subst r
                refine RetOk.mk (.tmp_bool rfl .nil) ?_
                exact ⟨rfl, h406⟩
              ·
                replace hR := ifF hR hc404
                refine Plan.neBoolV (v := false) FSealRefuses.bool4 rfl rfl rfl (Bool.eq_false_iff.2 hc404) ?_
                refine Plan.pickFb rfl rfl rfl ?_
                refine Plan.move_bool rfl rfl ?_
                refine Plan.move_int rfl rfl ?_
                by_cases hc407 : x_74 ≠ 0
                ·
                  replace hR := ifT hR hc407
                  refine Plan.cmpV (a := (((x_74 : Nat) : Int) : Int)) (b := (0 : Int)) (p := x_74 ≠ 0) (v := true) rfl rfl rfl rfl icmp_neN (decide_eq_true hc407) ?_
                  refine Plan.move_bool rfl rfl ?_
                  refine Plan.move_int rfl rfl ?_
                  refine Plan.cmpP (a := (((x_74 : Nat) : Int) : Int)) (b := (50 : Int)) (p := x_74 ≠ 50) rfl rfl rfl rfl icmp_neN ?_
                  refine Plan.pickTb rfl rfl rfl ?_
                  refine Plan.pickFb rfl rfl rfl ?_
                  refine Plan.nil ?_
                  refine hK384 _ _ ?_; clear hK384
                  by_cases hc408 : x_74 ≠ 50
                  ·
                    replace hR := ifT hR hc408
                    refine W.condT (congrArg Value.bool (decide_eq_true hc408)) ?_
                    refine W.seq_k fun K409 hK409 => ?_
                    refine W.regionT [(0, true)] (by kernel_rfl) ?_
                    refine Plan.assign_bool rfl rfl ?_
                    refine Plan.nil ?_
                    refine hK409 _ _ ?_; clear hK409
                    refine W.ret (thenR_ret (thenR_ret (finR_ret ?_)))
                    have h410 := St.pickT (C := [_, _, _, _, _, _, _]) h403 [] (by decide)
                    simp only [pick, List.filterMap_cons, List.filterMap_nil, List.getElem?_cons_zero, List.getElem?_cons_succ, List.cons_append, List.nil_append] at h410
                    replace hR := hR.2
                    subst r
                    refine RetOk.mk (.tmp_bool rfl .nil) ?_
                    exact ⟨rfl, h410⟩
                  ·
                    replace hR := ifF hR hc408
                    refine W.condF (congrArg Value.bool (decide_eq_false hc408)) ?_
                    refine W.skip ?_
                    have h411 := St.pickT (C := [_, _, _, _, _, _, _]) h403 [3, 2, 5, 6] (by decide)
                    simp only [pick, List.filterMap_cons, List.filterMap_nil, List.getElem?_cons_zero, List.getElem?_cons_succ, List.cons_append, List.nil_append] at h411
                    exact ⟨s86, hR, as86, ps86, cs86, Fs86, (EnvHas.cons rfl (EnvHas.cons rfl (EnvHas.cons rfl (EnvHas.cons rfl (EnvHas.cons rfl (EnvHas.cons rfl (EnvHas.cons rfl EnvHas.nil))))))), h411, hs86⟩
                ·
                  replace hR := ifF hR hc407
                  refine Plan.cmpV (a := (((x_74 : Nat) : Int) : Int)) (b := (0 : Int)) (p := x_74 ≠ 0) (v := false) rfl rfl rfl rfl icmp_neN (decide_eq_false hc407) ?_
                  refine Plan.move_bool rfl rfl ?_
                  refine Plan.passed rfl ?_
                  refine Plan.passed rfl ?_
                  refine Plan.pickFb rfl rfl rfl ?_
                  refine Plan.pickFb rfl rfl rfl ?_
                  refine Plan.nil ?_
                  refine hK384 _ _ ?_; clear hK384
                  refine W.condF rfl ?_
                  refine W.skip ?_
                  have h412 := St.pickT (C := [_, _, _, _, _, _, _]) h403 [3, 2, 5, 6] (by decide)
                  simp only [pick, List.filterMap_cons, List.filterMap_nil, List.getElem?_cons_zero, List.getElem?_cons_succ, List.cons_append, List.nil_append] at h412
                  exact ⟨s86, hR, as86, ps86, cs86, Fs86, (EnvHas.cons rfl (EnvHas.cons rfl (EnvHas.cons rfl (EnvHas.cons rfl (EnvHas.cons rfl (EnvHas.cons rfl (EnvHas.cons rfl EnvHas.nil))))))), h412, hs86⟩
            ·
              replace hR := ifF hR hc386
              refine Plan.move_bool (b := false) rfl (congrArg Value.bool (Bool.eq_false_iff.2 hc386)) ?_
              refine Plan.notF rfl rfl ?_
              refine Plan.move_bool rfl rfl ?_
              refine Plan.passed rfl ?_
              refine Plan.passed rfl ?_
              refine Plan.passed rfl ?_
              refine Plan.passed rfl ?_
              refine Plan.passed rfl ?_
              refine Plan.passed rfl ?_
              refine Plan.passed rfl ?_
              refine Plan.passed rfl ?_
              refine Plan.passed rfl ?_
              refine Plan.passed rfl ?_
              refine Plan.passed rfl ?_
              refine Plan.passed rfl ?_
              refine Plan.passed rfl ?_
              refine Plan.pickTb rfl rfl rfl ?_
              refine Plan.move_bool rfl rfl ?_
              refine Plan.passed rfl ?_
              refine Plan.passed rfl ?_
              refine Plan.passed rfl ?_
              refine Plan.passed rfl ?_
              refine Plan.passed rfl ?_
              refine Plan.passed rfl ?_
              refine Plan.pickTb rfl rfl rfl ?_
              refine Plan.nil ?_
              refine hK384 _ _ ?_; clear hK384
              refine W.condT rfl ?_
              refine W.seq_k fun K413 hK413 => ?_
              refine W.regionT [(0, true)] (by kernel_rfl) ?_
              refine Plan.assign_bool rfl rfl ?_
              refine Plan.nil ?_
              refine hK413 _ _ ?_; clear hK413
              refine W.ret (thenR_ret (thenR_ret (finR_ret ?_)))
              have h414 := St.pickT (C := [_, _, _, _, _, _]) h385 [] (by decide)
              simp only [pick, List.filterMap_cons, List.filterMap_nil, List.getElem?_cons_zero, List.getElem?_cons_succ, List.cons_append, List.nil_append] at h414
              replace hR := hR.2
              subst r
              refine RetOk.mk (.tmp_bool rfl .nil) ?_
              exact ⟨rfl, h414⟩
          ·
            rintro ev415 wl415 ⟨y_s382, ⟨hy415_0, hy415_1⟩, as382, ps382, cs382, Fs382, he415, h415, hs382⟩
            subst hy415_1
            obtain ⟨ev415, rfl⟩ := he415.open
            replace hR := hR0383 hy415_0
            refine hK355 _ _ ?_; clear hK355
            refine W.seq_k fun K416 hK416 => ?_
            refine W.regionT [(0, true), (1, true), (2, true), (3, false), (4, true), (5, true), (6, true), (7, true), (8, true)] (by kernel_rfl) ?_
            refine Plan.loadA1 h415 3 rfl rfl rfl FSealRefuses.agg23 ?_
            refine Plan.move_slice rfl rfl ?_
            refine Plan.move_slice rfl rfl ?_
            obtain ⟨x_418, x_419, hr417, hR⟩ := hR
            refine Plan.call (vs := [AG [(32, fun q => VU .u8 (key1 q))], .slice ay0_26 x_25.length cy0_28, .slice as382 x_32.length cs382]) rfl FSealRefuses.call12 rfl (seal_Open_ok (iG0 := iG0 + 4) hG0 (iG1 := iG1 + 4) hG1 ((Bx.unapp (D := [_, _]) hf29_0).app [_, _, _, _]) (by exact (hs382.bx 0 rfl)) hr417 h415) ?_
            rintro _ w425 ⟨ay0_420, py0_421, ny0_422, cy0_423, Fy0_424, rfl, h425, hf425_0⟩
            obtain rfl := hf425_0.hl
            refine ⟨_, rfl, .inr ⟨rfl, ?_⟩⟩
            refine Plan.move_tuple rfl rfl ?_
            refine Plan.extract_slice rfl rfl rfl ?_
            refine Plan.extract_int rfl rfl rfl ?_
            refine Plan.assign_slice rfl rfl ?_
            refine Plan.assign_int rfl rfl ?_
            refine Plan.nil ?_
            refine hK416 _ _ ?_; clear hK416
            refine W.seq_k fun K426 hK426 => ?_
            obtain ⟨ok452, s451, hX452, hR0452⟩ := hR
            refine W.cutN (fun e w => ∃ y_s451 : List Byte, (ok452 = true ∧ s451 = y_s451) ∧ ∃ as451 : Option Addr, ∃ ps451 : Option Nat, ∃ cs451 : Nat, ∃ Fs451 : Nat → Byte, EnvHas e [(1, .slice ay0_14 x_13.length cy0_16), (10, .pointer (some ⟨b10, 0, none⟩)), (15, .slice as451 x_32.length cs451), (21, .int .i64 (((x_32.length : Nat) : Int) - 32))] ∧ St B w0 (⟨ps451, 0, cs451, fun q => VU .u8 (Fs451 q), true⟩ :: ⟨some b10, 0, 32, fun q => VU .u8 (other4 q), true⟩ :: L) w ∧ Ow as451 ps451 x_32.length cs451 Fs451 y_s451) ?_ ?_
            ·
              replace hR := hX452
              refine W.seq_k fun K453 hK453 => ?_
              refine W.regionD FSealRefuses.mixed [(0, true), (1, true), (2, true), (3, true), (4, true), (5, true), (6, true), (8, true), (9, true), (10, true), (7, false), (11, false), (12, true), (13, true), (14, true), (15, true), (16, true), (17, true), (18, true), (19, true), (20, true)] (by kernel_rfl) ?_
              have h454 := h425.drew
              refine Plan.move_int rfl rfl ?_
              refine Plan.cmpP (a := (((x_419 : Nat) : Int) : Int)) (b := (0 : Int)) (p := x_419 = 0) rfl rfl rfl rfl icmp_eqN ?_
              refine Plan.move_slice rfl rfl ?_
              refine Plan.move_slice rfl rfl ?_
              refine Plan.move_slice rfl rfl ?_
              refine Plan.move_int rfl rfl ?_
              obtain ⟨hc455, hR⟩ := hR
              obtain ⟨hc456, hR⟩ := hR
              have hm457 := hs382.hc
              refine Plan.slSl (lo := 0) (hi := (((x_32.length : Nat) : Int) - 32).toNat) FSealRefuses.sl24 rfl rfl rfl ⟨_, congrArg (Value.int .i64) (Int.toNat_of_nonneg hc455).symm⟩ (by omega) ?_
              refine Plan.move_slice rfl rfl ?_
              refine Plan.move_int rfl rfl ?_
              obtain ⟨hc458, hR⟩ := hR
              obtain ⟨hc459, hR⟩ := hR
              have hm460 := hs382.hc
              refine Plan.slSl (lo := (((x_32.length : Nat) : Int) - 32).toNat) (hi := x_32.length) FSealRefuses.sl24 rfl rfl ⟨_, congrArg (Value.int .i64) (Int.toNat_of_nonneg hc458).symm⟩ rfl (by omega) ?_
              obtain ⟨x_462, hr461, hR⟩ := hR
              refine Plan.call (vs := [.slice ay1_349 x_106.length cy1_351, .slice ay0_26 x_25.length cy0_28, .slice (if cs382 = 0 then as382 else (as382).map (·.add (0 * 1))) ((((x_32.length : Nat) : Int) - 32).toNat - 0) (cs382 - 0)]) rfl FSealRefuses.call15 rfl (lethelaw05_tag_ok (iG0 := iG0 + 5) hG0 (iG1 := iG1 + 5) hG1 (by exact (Bx.move (j := 2) hf352_1 rfl rfl)) ((Bx.unapp (D := [_, _]) hf29_0).app [_, _, _, _, _]) (by exact ((hs382.bx 1 rfl).seg (lo := 0) (hi := (((x_32.length : Nat) : Int) - 32).toNat) hc456)) hr461 h454) ?_
              rintro _ w468 ⟨ay0_463, py0_464, ny0_465, cy0_466, Fy0_467, rfl, h468, hf468_0⟩
              obtain rfl := hf468_0.hl
              refine ⟨_, rfl, .inl ⟨PIn.keep PIn.nil h468, ?_⟩⟩
              obtain ⟨x_470, hr469, hR⟩ := hR
              refine Plan.call (vs := [.slice ay0_463 x_462.length cy0_466, .slice (if cs382 = (((x_32.length : Nat) : Int) - 32).toNat then as382 else (as382).map (·.add (((((x_32.length : Nat) : Int) - 32).toNat) * 1))) (x_32.length - (((x_32.length : Nat) : Int) - 32).toNat) (cs382 - (((x_32.length : Nat) : Int) - 32).toNat)]) rfl FSealRefuses.call14 rfl (lethelaw05_Eq_ok (by exact (hf468_0.bx 0 rfl)) (by exact ((hs382.bx 2 rfl).seg (lo := (((x_32.length : Nat) : Int) - 32).toNat) (hi := x_32.length) hc459)) hr469 h468) ?_
              rintro _ w471 ⟨rfl, h471⟩
              refine ⟨_, rfl, .inl ⟨PIn.keep PIn.nil h471, ?_⟩⟩
              by_cases hc472 : ((decide (x_419 = 0)) != x_470) = true
              ·
                replace hR := ifT hR hc472
                refine Plan.neBoolV (v := true) FSealRefuses.bool4 rfl rfl rfl hc472 ?_
                refine Plan.move_bool rfl rfl ?_
                refine Plan.passed rfl ?_
                refine Plan.passed rfl ?_
                refine Plan.passed rfl ?_
                refine Plan.passed rfl ?_
                refine Plan.passed rfl ?_
                refine Plan.passed rfl ?_
                refine Plan.pickTb rfl rfl rfl ?_
                refine Plan.nil ?_
                refine hK453 _ _ ?_; clear hK453
                refine W.condT rfl ?_
                refine W.seq_k fun K473 hK473 => ?_
                refine W.regionT [(0, true)] (by kernel_rfl) ?_
                refine Plan.assign_bool rfl rfl ?_
                refine Plan.nil ?_
                refine hK473 _ _ ?_; clear hK473
                refine W.ret (thenR_ret (thenR_ret (finR_ret ?_)))
                have h474 := St.pickT (C := [_, _, _, _, _, _]) h471 [] (by decide)
                simp only [pick, List.filterMap_cons, List.filterMap_nil, List.getElem?_cons_zero, List.getElem?_cons_succ, List.cons_append, List.nil_append] at h474
                replace hR := hR.2
                subst r
                refine RetOk.mk (.tmp_bool rfl .nil) ?_
                exact ⟨rfl, h474⟩
              ·
                replace hR := ifF hR hc472
                refine Plan.neBoolV (v := false) FSealRefuses.bool4 rfl rfl rfl (Bool.eq_false_iff.2 hc472) ?_
                refine Plan.move_bool rfl rfl ?_
                refine Plan.move_int rfl rfl ?_
                by_cases hc475 : x_419 ≠ 0
                ·
                  replace hR := ifT hR hc475
                  refine Plan.cmpV (a := (((x_419 : Nat) : Int) : Int)) (b := (0 : Int)) (p := x_419 ≠ 0) (v := true) rfl rfl rfl rfl icmp_neN (decide_eq_true hc475) ?_
                  refine Plan.move_bool rfl rfl ?_
                  refine Plan.move_int rfl rfl ?_
                  refine Plan.cmpP (a := (((x_419 : Nat) : Int) : Int)) (b := (50 : Int)) (p := x_419 ≠ 50) rfl rfl rfl rfl icmp_neN ?_
                  refine Plan.pickTb rfl rfl rfl ?_
                  refine Plan.pickFb rfl rfl rfl ?_
                  refine Plan.nil ?_
                  refine hK453 _ _ ?_; clear hK453
                  by_cases hc476 : x_419 ≠ 50
                  ·
                    replace hR := ifT hR hc476
                    refine W.condT (congrArg Value.bool (decide_eq_true hc476)) ?_
                    refine W.seq_k fun K477 hK477 => ?_
                    refine W.regionT [(0, true)] (by kernel_rfl) ?_
                    refine Plan.assign_bool rfl rfl ?_
                    refine Plan.nil ?_
                    refine hK477 _ _ ?_; clear hK477
                    refine W.ret (thenR_ret (thenR_ret (finR_ret ?_)))
                    have h478 := St.pickT (C := [_, _, _, _, _, _]) h471 [] (by decide)
                    simp only [pick, List.filterMap_cons, List.filterMap_nil, List.getElem?_cons_zero, List.getElem?_cons_succ, List.cons_append, List.nil_append] at h478
                    replace hR := hR.2
                    subst r
                    refine RetOk.mk (.tmp_bool rfl .nil) ?_
                    exact ⟨rfl, h478⟩
                  ·
                    replace hR := ifF hR hc476
                    refine W.condF (congrArg Value.bool (decide_eq_false hc476)) ?_
                    refine W.skip ?_
                    have h479 := St.pickT (C := [_, _, _, _, _, _]) h471 [2, 4] (by decide)
                    simp only [pick, List.filterMap_cons, List.filterMap_nil, List.getElem?_cons_zero, List.getElem?_cons_succ, List.cons_append, List.nil_append] at h479
                    exact ⟨s382, hR, as382, ps382, cs382, Fs382, (EnvHas.cons rfl (EnvHas.cons rfl (EnvHas.cons rfl (EnvHas.cons rfl EnvHas.nil)))), h479, hs382⟩
                ·
                  replace hR := ifF hR hc475
                  refine Plan.cmpV (a := (((x_419 : Nat) : Int) : Int)) (b := (0 : Int)) (p := x_419 ≠ 0) (v := false) rfl rfl rfl rfl icmp_neN (decide_eq_false hc475) ?_
                  refine Plan.move_bool rfl rfl ?_
                  refine Plan.passed rfl ?_
                  refine Plan.passed rfl ?_
                  refine Plan.pickFb rfl rfl rfl ?_
                  refine Plan.pickFb rfl rfl rfl ?_
                  refine Plan.nil ?_
                  refine hK453 _ _ ?_; clear hK453
                  refine W.condF rfl ?_
                  refine W.skip ?_
                  have h480 := St.pickT (C := [_, _, _, _, _, _]) h471 [2, 4] (by decide)
                  simp only [pick, List.filterMap_cons, List.filterMap_nil, List.getElem?_cons_zero, List.getElem?_cons_succ, List.cons_append, List.nil_append] at h480
                  exact ⟨s382, hR, as382, ps382, cs382, Fs382, (EnvHas.cons rfl (EnvHas.cons rfl (EnvHas.cons rfl (EnvHas.cons rfl EnvHas.nil)))), h480, hs382⟩
            ·
              rintro ev481 wl481 ⟨y_s451, ⟨hy481_0, hy481_1⟩, as451, ps451, cs451, Fs451, he481, h481, hs451⟩
              subst hy481_1
              obtain ⟨ev481, rfl⟩ := he481.open
              replace hR := hR0452 hy481_0
              refine hK426 _ _ ?_; clear hK426
              refine W.seq_k fun K482 hK482 => ?_
              refine W.regionT [(0, true), (1, true), (2, true), (3, false), (4, true), (5, true), (6, true), (7, true), (8, true)] (by kernel_rfl) ?_
              refine Plan.loadA1 h481 1 rfl rfl rfl FSealRefuses.agg23 ?_
              refine Plan.move_slice rfl rfl ?_
              refine Plan.move_slice rfl rfl ?_
              obtain ⟨x_484, x_485, hr483, hR⟩ := hR
              refine Plan.call (vs := [AG [(32, fun q => VU .u8 (other4 q))], .slice ay0_14 x_13.length cy0_16, .slice as451 x_32.length cs451]) rfl FSealRefuses.call12 rfl (seal_Open_ok (iG0 := iG0 + 2) hG0 (iG1 := iG1 + 2) hG1 ((Bx.unapp (D := [_, _]) hf17_0).app [_, _]) (by exact (hs451.bx 0 rfl)) hr483 h481) ?_
              rintro _ w491 ⟨ay0_486, py0_487, ny0_488, cy0_489, Fy0_490, rfl, h491, hf491_0⟩
              obtain rfl := hf491_0.hl
              refine ⟨_, rfl, .inr ⟨rfl, ?_⟩⟩
              refine Plan.move_tuple rfl rfl ?_
              refine Plan.extract_slice rfl rfl rfl ?_
              refine Plan.extract_int rfl rfl rfl ?_
              refine Plan.assign_slice rfl rfl ?_
              refine Plan.assign_int rfl rfl ?_
              refine Plan.nil ?_
              refine hK482 _ _ ?_; clear hK482
              refine W.seq_k fun K492 hK492 => ?_
              refine W.regionT [(0, true), (1, false), (2, true), (3, true), (4, true), (5, true), (6, true), (7, false), (8, true), (9, true), (10, false), (11, true)] (by kernel_rfl) ?_
              refine Plan.loadA1 h491 2 rfl rfl rfl FSealRefuses.agg23 ?_
              rcases hR with ⟨x_494, x_495, x_496, x_497, hr493, hR⟩ | ⟨x_498, x_499, x_500, x_501, hr493, hR⟩
              ·
                refine Plan.call (vs := [AG [(32, fun q => VU .u8 (other4 q))]]) rfl FSealRefuses.call13 rfl (lethelaw05_three_ok (iG0 := iG0 + 3) hG0 (iG1 := iG1 + 3) hG1 hr493 h491) ?_
                rintro _ w512 ⟨ay0_502, py0_503, ny0_504, cy0_505, Fy0_506, ay1_507, py1_508, ny1_509, cy1_510, Fy1_511, rfl, h512, hf512_0, hf512_1⟩
                obtain rfl := hf512_0.hl
                obtain rfl := hf512_1.hl
                refine ⟨_, rfl, .inr ⟨rfl, ?_⟩⟩
                refine Plan.move_tuple rfl rfl ?_
                refine Plan.extract_slice rfl rfl rfl ?_
                refine Plan.extract_slice rfl rfl rfl ?_
                refine Plan.extract_agg rfl rfl rfl ?_
                refine Plan.extract_bool rfl rfl rfl ?_
                refine Plan.alloc h512 rfl FSealRefuses.z31 PIn.nil fun b513 w513 hb513 h513 => ?_
                simp only [rngs, Nat.zero_add, Nat.reduceAdd, List.cons_append, List.nil_append] at h513
                refine Plan.assign_slice rfl rfl ?_
                refine Plan.assign_slice rfl rfl ?_
                refine Plan.storeA (f' := fun q => VU .u8 (x_496 q)) h513 0 rfl rfl rfl rfl (fun _ _ => rfl) FSealRefuses.sz31 rfl fun w514 h514 => ?_
                simp only [List.cons_append, List.nil_append, List.set_cons_zero, List.set_cons_succ] at h514
                refine Plan.assign_bool rfl rfl ?_
                refine Plan.nil ?_
                refine hK492 _ _ ?_; clear hK492
                refine W.seq_k fun K515 hK515 => ?_
                refine W.regionD FSealRefuses.mixed [(0, true), (1, true), (2, true), (3, true), (4, true), (5, true), (6, true), (7, true), (8, true), (10, true), (11, true), (12, true), (9, false), (13, false), (14, true), (15, true), (16, true), (17, true), (18, true), (19, true), (20, true), (21, true), (22, true), (23, true), (24, true)] (by kernel_rfl) ?_
                have h516 := h514.drew
                by_cases hc517 : x_497 = true
                ·
                  replace hR := ifT hR hc517
                  refine Plan.move_bool (b := true) rfl (congrArg Value.bool hc517) ?_
                  refine Plan.move_bool rfl rfl ?_
                  refine Plan.move_int rfl rfl ?_
                  refine Plan.cmpP (a := (((x_485 : Nat) : Int) : Int)) (b := (0 : Int)) (p := x_485 = 0) rfl rfl rfl rfl icmp_eqN ?_
                  refine Plan.move_slice rfl rfl ?_
                  refine Plan.move_slice rfl rfl ?_
                  refine Plan.move_slice rfl rfl ?_
                  refine Plan.move_int rfl rfl ?_
                  obtain ⟨hc518, hR⟩ := hR
                  obtain ⟨hc519, hR⟩ := hR
                  have hm520 := hs451.hc
                  refine Plan.slSl (lo := 0) (hi := (((x_32.length : Nat) : Int) - 32).toNat) FSealRefuses.sl24 rfl rfl rfl ⟨_, congrArg (Value.int .i64) (Int.toNat_of_nonneg hc518).symm⟩ (by omega) ?_
                  refine Plan.move_slice rfl rfl ?_
                  refine Plan.move_int rfl rfl ?_
                  obtain ⟨hc521, hR⟩ := hR
                  obtain ⟨hc522, hR⟩ := hR
                  have hm523 := hs451.hc
                  refine Plan.slSl (lo := (((x_32.length : Nat) : Int) - 32).toNat) (hi := x_32.length) FSealRefuses.sl24 rfl rfl ⟨_, congrArg (Value.int .i64) (Int.toNat_of_nonneg hc521).symm⟩ rfl (by omega) ?_
                  obtain ⟨x_525, hr524, hR⟩ := hR
                  refine Plan.call (vs := [.slice ay1_507 x_495.length cy1_510, .slice ay0_14 x_13.length cy0_16, .slice (if cs451 = 0 then as451 else (as451).map (·.add (0 * 1))) ((((x_32.length : Nat) : Int) - 32).toNat - 0) (cs451 - 0)]) rfl FSealRefuses.call15 rfl (lethelaw05_tag_ok (iG0 := iG0 + 6) hG0 (iG1 := iG1 + 6) hG1 (by exact (hf512_1.bx 2 rfl)) ((Bx.unapp (D := [_, _]) hf17_0).app [_, _, _, _, _, _]) (by exact ((hs451.bx 4 rfl).seg (lo := 0) (hi := (((x_32.length : Nat) : Int) - 32).toNat) hc519)) hr524 h516) ?_
                  rintro _ w531 ⟨ay0_526, py0_527, ny0_528, cy0_529, Fy0_530, rfl, h531, hf531_0⟩
                  obtain rfl := hf531_0.hl
                  refine ⟨_, rfl, .inl ⟨PIn.keep PIn.nil h531, ?_⟩⟩
                  obtain ⟨x_533, hr532, hR⟩ := hR
                  refine Plan.call (vs := [.slice ay0_526 x_525.length cy0_529, .slice (if cs451 = (((x_32.length : Nat) : Int) - 32).toNat then as451 else (as451).map (·.add (((((x_32.length : Nat) : Int) - 32).toNat) * 1))) (x_32.length - (((x_32.length : Nat) : Int) - 32).toNat) (cs451 - (((x_32.length : Nat) : Int) - 32).toNat)]) rfl FSealRefuses.call14 rfl (lethelaw05_Eq_ok (by exact (hf531_0.bx 0 rfl)) (by exact ((hs451.bx 5 rfl).seg (lo := (((x_32.length : Nat) : Int) - 32).toNat) (hi := x_32.length) hc522)) hr532 h531) ?_
                  rintro _ w534 ⟨rfl, h534⟩
                  refine ⟨_, rfl, .inl ⟨PIn.keep PIn.nil h534, ?_⟩⟩
                  by_cases hc535 : ((decide (x_485 = 0)) == x_533) = true
                  ·
                    replace hR := ifT hR hc535
                    refine Plan.eqBoolV (v := true) FSealRefuses.bool4 rfl rfl rfl hc535 ?_
                    refine Plan.pickTb rfl rfl rfl ?_
                    refine Plan.move_bool rfl rfl ?_
                    refine Plan.move_int rfl rfl ?_
                    by_cases hc536 : x_485 = 0
                    ·
                      replace hR := ifT hR hc536
                      refine Plan.cmpV (a := (((x_485 : Nat) : Int) : Int)) (b := (0 : Int)) (p := x_485 = 0) (v := true) rfl rfl rfl rfl icmp_eqN (decide_eq_true hc536) ?_
                      refine Plan.move_bool rfl rfl ?_
                      refine Plan.passed rfl ?_
                      refine Plan.passed rfl ?_
                      refine Plan.pickTb rfl rfl rfl ?_
                      refine Plan.pickTb rfl rfl rfl ?_
                      refine Plan.assign_bool rfl rfl ?_
                      refine Plan.nil ?_
                      refine hK515 _ _ ?_; clear hK515
                      refine W.ret (finR_ret ?_)
                      have h537 := St.pickT (C := [_, _, _, _, _, _, _]) h534 [] (by decide)
                      simp only [pick, List.filterMap_cons, List.filterMap_nil, List.getElem?_cons_zero, List.getElem?_cons_succ, List.cons_append, List.nil_append] at h537
                      subst r
                      refine RetOk.mk (.tmp_bool rfl .nil) ?_
                      exact ⟨rfl, h537⟩
                    ·
                      replace hR := ifF hR hc536
                      refine Plan.cmpV (a := (((x_485 : Nat) : Int) : Int)) (b := (0 : Int)) (p := x_485 = 0) (v := false) rfl rfl rfl rfl icmp_eqN (decide_eq_false hc536) ?_
                      refine Plan.move_bool rfl rfl ?_
                      refine Plan.move_int rfl rfl ?_
                      refine Plan.cmpP (a := (((x_485 : Nat) : Int) : Int)) (b := (50 : Int)) (p := x_485 = 50) rfl rfl rfl rfl icmp_eqN ?_
                      refine Plan.pickFb rfl rfl rfl ?_
                      refine Plan.pickTb rfl rfl rfl ?_
                      refine Plan.assign_bool rfl rfl ?_
                      refine Plan.nil ?_
                      refine hK515 _ _ ?_; clear hK515
                      refine W.ret (finR_ret ?_)
                      have h538 := St.pickT (C := [_, _, _, _, _, _, _]) h534 [] (by decide)
                      simp only [pick, List.filterMap_cons, List.filterMap_nil, List.getElem?_cons_zero, List.getElem?_cons_succ, List.cons_append, List.nil_append] at h538
                      subst r
                      refine RetOk.mk (.tmp_bool rfl .nil) ?_
                      exact ⟨rfl, h538⟩
                  ·
                    replace hR := ifF hR hc535
                    refine Plan.eqBoolV (v := false) FSealRefuses.bool4 rfl rfl rfl (Bool.eq_false_iff.2 hc535) ?_
                    refine Plan.pickTb rfl rfl rfl ?_
                    refine Plan.move_bool rfl rfl ?_
                    refine Plan.passed rfl ?_
                    refine Plan.passed rfl ?_
                    refine Plan.passed rfl ?_
                    refine Plan.passed rfl ?_
                    refine Plan.passed rfl ?_
                    refine Plan.passed rfl ?_
                    refine Plan.pickFb rfl rfl rfl ?_
                    refine Plan.assign_bool rfl rfl ?_
                    refine Plan.nil ?_
                    refine hK515 _ _ ?_; clear hK515
                    refine W.ret (finR_ret ?_)
                    have h539 := St.pickT (C := [_, _, _, _, _, _, _]) h534 [] (by decide)
                    simp only [pick, List.filterMap_cons, List.filterMap_nil, List.getElem?_cons_zero, List.getElem?_cons_succ, List.cons_append, List.nil_append] at h539
                    subst r
                    refine RetOk.mk (.tmp_bool rfl .nil) ?_
                    exact ⟨rfl, h539⟩
                ·
                  replace hR := ifF hR hc517
                  refine Plan.move_bool (b := false) rfl (congrArg Value.bool (Bool.eq_false_iff.2 hc517)) ?_
                  refine Plan.move_bool rfl rfl ?_
                  refine Plan.passed rfl ?_
                  refine Plan.passed rfl ?_
                  refine Plan.passed rfl ?_
                  refine Plan.passed rfl ?_
                  refine Plan.passed rfl ?_
                  refine Plan.passed rfl ?_
                  refine Plan.passed rfl ?_
                  refine Plan.passed rfl ?_
                  refine Plan.passed rfl ?_
                  refine Plan.passed rfl ?_
                  refine Plan.passed rfl ?_
                  refine Plan.passed rfl ?_
                  refine Plan.passed rfl ?_
                  refine Plan.pickFb rfl rfl rfl ?_
                  refine Plan.move_bool rfl rfl ?_
                  refine Plan.passed rfl ?_
                  refine Plan.passed rfl ?_
                  refine Plan.passed rfl ?_
                  refine Plan.passed rfl ?_
                  refine Plan.passed rfl ?_
                  refine Plan.passed rfl ?_
                  refine Plan.pickFb rfl rfl rfl ?_
                  refine Plan.assign_bool rfl rfl ?_
                  refine Plan.nil ?_
                  refine hK515 _ _ ?_; clear hK515
                  refine W.ret (finR_ret ?_)
                  have h540 := St.pickT (C := [_, _, _, _, _, _]) h516 [] (by decide)
                  simp only [pick, List.filterMap_cons, List.filterMap_nil, List.getElem?_cons_zero, List.getElem?_cons_succ, List.cons_append, List.nil_append] at h540
                  subst r
                  refine RetOk.mk (.tmp_bool rfl .nil) ?_
                  exact ⟨rfl, h540⟩
              ·
                refine Plan.call (vs := [AG [(32, fun q => VU .u8 (other4 q))]]) rfl FSealRefuses.call13 rfl (lethelaw05_three_ok (iG0 := iG0 + 3) hG0 (iG1 := iG1 + 3) hG1 hr493 h491) ?_
                rintro _ w548 ⟨ry0_541, ay0_542, ny0_543, cy0_544, ay1_545, ny1_546, cy1_547, rfl, h548, hf548_0, hf548_1⟩
                obtain rfl := hf548_0.hl
                obtain rfl := hf548_1.hl
                refine ⟨_, rfl, .inr ⟨rfl, ?_⟩⟩
                refine Plan.move_tuple rfl rfl ?_
                refine Plan.extract_slice rfl rfl rfl ?_
                refine Plan.extract_slice rfl rfl rfl ?_
                refine Plan.extract_agg rfl rfl rfl ?_
                refine Plan.extract_bool rfl rfl rfl ?_
                refine Plan.alloc h548 rfl FSealRefuses.z31 PIn.nil fun b549 w549 hb549 h549 => ?_
                simp only [rngs, Nat.zero_add, Nat.reduceAdd, List.cons_append, List.nil_append] at h549
                refine Plan.assign_slice rfl rfl ?_
                refine Plan.assign_slice rfl rfl ?_
                refine Plan.storeA (f' := fun q => VU .u8 (x_500 q)) h549 0 rfl rfl rfl rfl (fun _ _ => rfl) FSealRefuses.sz31 rfl fun w550 h550 => ?_
                simp only [List.cons_append, List.nil_append, List.set_cons_zero, List.set_cons_succ] at h550
                refine Plan.assign_bool rfl rfl ?_
                refine Plan.nil ?_
                refine hK492 _ _ ?_; clear hK492
                refine W.seq_k fun K551 hK551 => ?_
                refine W.regionD FSealRefuses.mixed [(0, true), (1, true), (2, true), (3, true), (4, true), (5, true), (6, true), (7, true), (8, true), (10, true), (11, true), (12, true), (9, false), (13, false), (14, true), (15, true), (16, true), (17, true), (18, true), (19, true), (20, true), (21, true), (22, true), (23, true), (24, true)] (by kernel_rfl) ?_
                have h552 := h550.drew
                by_cases hc553 : x_501 = true
                ·
                  replace hR := ifT hR hc553
                  refine Plan.move_bool (b := true) rfl (congrArg Value.bool hc553) ?_
                  refine Plan.move_bool rfl rfl ?_
                  refine Plan.move_int rfl rfl ?_
                  refine Plan.cmpP (a := (((x_485 : Nat) : Int) : Int)) (b := (0 : Int)) (p := x_485 = 0) rfl rfl rfl rfl icmp_eqN ?_
                  refine Plan.move_slice rfl rfl ?_
                  refine Plan.move_slice rfl rfl ?_
                  refine Plan.move_slice rfl rfl ?_
                  refine Plan.move_int rfl rfl ?_
                  obtain ⟨hc554, hR⟩ := hR
                  obtain ⟨hc555, hR⟩ := hR
                  have hm556 := hs451.hc
                  refine Plan.slSl (lo := 0) (hi := (((x_32.length : Nat) : Int) - 32).toNat) FSealRefuses.sl24 rfl rfl rfl ⟨_, congrArg (Value.int .i64) (Int.toNat_of_nonneg hc554).symm⟩ (by omega) ?_
                  refine Plan.move_slice rfl rfl ?_
                  refine Plan.move_int rfl rfl ?_
                  obtain ⟨hc557, hR⟩ := hR
                  obtain ⟨hc558, hR⟩ := hR
                  have hm559 := hs451.hc
                  refine Plan.slSl (lo := (((x_32.length : Nat) : Int) - 32).toNat) (hi := x_32.length) FSealRefuses.sl24 rfl rfl ⟨_, congrArg (Value.int .i64) (Int.toNat_of_nonneg hc557).symm⟩ rfl (by omega) ?_
                  obtain ⟨x_561, hr560, hR⟩ := hR
                  refine Plan.call (vs := [.slice ay1_545 x_499.length cy1_547, .slice ay0_14 x_13.length cy0_16, .slice (if cs451 = 0 then as451 else (as451).map (·.add (0 * 1))) ((((x_32.length : Nat) : Int) - 32).toNat - 0) (cs451 - 0)]) rfl FSealRefuses.call15 rfl (lethelaw05_tag_ok (iG0 := iG0 + 5) hG0 (iG1 := iG1 + 5) hG1 (by exact (Bx.move (j := 1) hf548_1 rfl rfl)) ((Bx.unapp (D := [_, _]) hf17_0).app [_, _, _, _, _]) (by exact ((hs451.bx 3 rfl).seg (lo := 0) (hi := (((x_32.length : Nat) : Int) - 32).toNat) hc555)) hr560 h552) ?_
                  rintro _ w567 ⟨ay0_562, py0_563, ny0_564, cy0_565, Fy0_566, rfl, h567, hf567_0⟩
                  obtain rfl := hf567_0.hl
                  refine ⟨_, rfl, .inl ⟨PIn.keep PIn.nil h567, ?_⟩⟩
                  obtain ⟨x_569, hr568, hR⟩ := hR
                  refine Plan.call (vs := [.slice ay0_562 x_561.length cy0_565, .slice (if cs451 = (((x_32.length : Nat) : Int) - 32).toNat then as451 else (as451).map (·.add (((((x_32.length : Nat) : Int) - 32).toNat) * 1))) (x_32.length - (((x_32.length : Nat) : Int) - 32).toNat) (cs451 - (((x_32.length : Nat) : Int) - 32).toNat)]) rfl FSealRefuses.call14 rfl (lethelaw05_Eq_ok (by exact (hf567_0.bx 0 rfl)) (by exact ((hs451.bx 4 rfl).seg (lo := (((x_32.length : Nat) : Int) - 32).toNat) (hi := x_32.length) hc558)) hr568 h567) ?_
                  rintro _ w570 ⟨rfl, h570⟩
                  refine ⟨_, rfl, .inl ⟨PIn.keep PIn.nil h570, ?_⟩⟩
                  by_cases hc571 : ((decide (x_485 = 0)) == x_569) = true
                  ·
                    replace hR := ifT hR hc571
                    refine Plan.eqBoolV (v := true) FSealRefuses.bool4 rfl rfl rfl hc571 ?_
                    refine Plan.pickTb rfl rfl rfl ?_
                    refine Plan.move_bool rfl rfl ?_
                    refine Plan.move_int rfl rfl ?_
                    by_cases hc572 : x_485 = 0
                    ·
                      replace hR := ifT hR hc572
                      refine Plan.cmpV (a := (((x_485 : Nat) : Int) : Int)) (b := (0 : Int)) (p := x_485 = 0) (v := true) rfl rfl rfl rfl icmp_eqN (decide_eq_true hc572) ?_
                      refine Plan.move_bool rfl rfl ?_
                      refine Plan.passed rfl ?_
                      refine Plan.passed rfl ?_
                      refine Plan.pickTb rfl rfl rfl ?_
                      refine Plan.pickTb rfl rfl rfl ?_
                      refine Plan.assign_bool rfl rfl ?_
                      refine Plan.nil ?_
                      refine hK551 _ _ ?_; clear hK551
                      refine W.ret (finR_ret ?_)
                      have h573 := St.pickT (C := [_, _, _, _, _, _]) h570 [] (by decide)
                      simp only [pick, List.filterMap_cons, List.filterMap_nil, List.getElem?_cons_zero, List.getElem?_cons_succ, List.cons_append, List.nil_append] at h573
                      subst r
                      refine RetOk.mk (.tmp_bool rfl .nil) ?_
                      exact ⟨rfl, h573⟩
                    ·
                      replace hR := ifF hR hc572
                      refine Plan.cmpV (a := (((x_485 : Nat) : Int) : Int)) (b := (0 : Int)) (p := x_485 = 0) (v := false) rfl rfl rfl rfl icmp_eqN (decide_eq_false hc572) ?_
                      refine Plan.move_bool rfl rfl ?_
                      refine Plan.move_int rfl rfl ?_
                      refine Plan.cmpP (a := (((x_485 : Nat) : Int) : Int)) (b := (50 : Int)) (p := x_485 = 50) rfl rfl rfl rfl icmp_eqN ?_
                      refine Plan.pickFb rfl rfl rfl ?_
                      refine Plan.pickTb rfl rfl rfl ?_
                      refine Plan.assign_bool rfl rfl ?_
                      refine Plan.nil ?_
                      refine hK551 _ _ ?_; clear hK551
                      refine W.ret (finR_ret ?_)
                      have h574 := St.pickT (C := [_, _, _, _, _, _]) h570 [] (by decide)
                      simp only [pick, List.filterMap_cons, List.filterMap_nil, List.getElem?_cons_zero, List.getElem?_cons_succ, List.cons_append, List.nil_append] at h574
                      subst r
                      refine RetOk.mk (.tmp_bool rfl .nil) ?_
                      exact ⟨rfl, h574⟩
                  ·
                    replace hR := ifF hR hc571
                    refine Plan.eqBoolV (v := false) FSealRefuses.bool4 rfl rfl rfl (Bool.eq_false_iff.2 hc571) ?_
                    refine Plan.pickTb rfl rfl rfl ?_
                    refine Plan.move_bool rfl rfl ?_
                    refine Plan.passed rfl ?_
                    refine Plan.passed rfl ?_
                    refine Plan.passed rfl ?_
                    refine Plan.passed rfl ?_
                    refine Plan.passed rfl ?_
                    refine Plan.passed rfl ?_
                    refine Plan.pickFb rfl rfl rfl ?_
                    refine Plan.assign_bool rfl rfl ?_
                    refine Plan.nil ?_
                    refine hK551 _ _ ?_; clear hK551
                    refine W.ret (finR_ret ?_)
                    have h575 := St.pickT (C := [_, _, _, _, _, _]) h570 [] (by decide)
                    simp only [pick, List.filterMap_cons, List.filterMap_nil, List.getElem?_cons_zero, List.getElem?_cons_succ, List.cons_append, List.nil_append] at h575
                    subst r
                    refine RetOk.mk (.tmp_bool rfl .nil) ?_
                    exact ⟨rfl, h575⟩
                ·
                  replace hR := ifF hR hc553
                  refine Plan.move_bool (b := false) rfl (congrArg Value.bool (Bool.eq_false_iff.2 hc553)) ?_
                  refine Plan.move_bool rfl rfl ?_
                  refine Plan.passed rfl ?_
                  refine Plan.passed rfl ?_
                  refine Plan.passed rfl ?_
                  refine Plan.passed rfl ?_
                  refine Plan.passed rfl ?_
                  refine Plan.passed rfl ?_
                  refine Plan.passed rfl ?_
                  refine Plan.passed rfl ?_
                  refine Plan.passed rfl ?_
                  refine Plan.passed rfl ?_
                  refine Plan.passed rfl ?_
                  refine Plan.passed rfl ?_
                  refine Plan.passed rfl ?_
                  refine Plan.pickFb rfl rfl rfl ?_
                  refine Plan.move_bool rfl rfl ?_
                  refine Plan.passed rfl ?_
                  refine Plan.passed rfl ?_
                  refine Plan.passed rfl ?_
                  refine Plan.passed rfl ?_
                  refine Plan.passed rfl ?_
                  refine Plan.passed rfl ?_
                  refine Plan.pickFb rfl rfl rfl ?_
                  refine Plan.assign_bool rfl rfl ?_
                  refine Plan.nil ?_
                  refine hK551 _ _ ?_; clear hK551
                  refine W.ret (finR_ret ?_)
                  have h576 := St.pickT (C := [_, _, _, _, _]) h552 [] (by decide)
                  simp only [pick, List.filterMap_cons, List.filterMap_nil, List.getElem?_cons_zero, List.getElem?_cons_succ, List.cons_append, List.nil_append] at h576
                  subst r
                  refine RetOk.mk (.tmp_bool rfl .nil) ?_
                  exact ⟨rfl, h576⟩

end Go.Proofs.YthjkmhdgenmnoaaDoor
