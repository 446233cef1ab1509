/-
  WALKS of the package's functions, printed by this session's own program (auto.py).
-/
import Derived.Test.YthjkmhdgenmnoaaDoorProg
import Derived.Test.YthjkmhdgenmnoaaDoorLx6
import Derived.Test.YthjkmhdgenmnoaaDoorRSealStreams
import Derived.Test.YthjkmhdgenmnoaaDoorWLaw05
import Derived.Test.YthjkmhdgenmnoaaDoorWSeal
namespace Go.Proofs.YthjkmhdgenmnoaaDoor
set_option linter.unusedSimpArgs false
set_option linter.unusedVariables false
set_option linter.unusedSectionVars false
open Go Go.LW
theorem FSealStreams.isl24 : ∃ el, Tryd.prog.underlying 24 = some (.slice el) := ⟨5, by kernel_rfl⟩
theorem FSealStreams.sl24 : slB Tryd.prog 24 1 = true := by kernel_rfl
theorem FSealStreams.call9 : callB Tryd.prog 9 = true := by kernel_rfl
theorem FSealStreams.agg23 : aggT Tryd.prog 23 32 = true := by kernel_rfl
theorem FSealStreams.mixed : Tryd.prog.follows .mixedOrders = true := by kernel_rfl
theorem FSealStreams.sc5 : scalarT Tryd.prog 5 = true := by kernel_rfl
theorem FSealStreams.call10 : callB Tryd.prog 10 = true := by kernel_rfl

set_option maxRecDepth 8000 in
set_option maxHeartbeats 1000000 in
theorem lethelaw05_SealStreams_ok {B : Nat} {w0 w : World} {L : List Rg} {iG0 : Nat} (hG0 : L[iG0]? = some ⟨some 0, 0, 8, fun q => VU .u32 (H256 q), false⟩) {iG1 : Nat} (hG1 : L[iG1]? = some ⟨some 1, 0, 64, fun q => VU .u32 (K256 q), false⟩) {key1 : Nat → BitVec 8} {a2 : List Byte} {aa2 : Option Addr} {na2 ca2 ia2 : Nat} (ha2 : Bx L ia2 aa2 na2 ca2 a2) {b3 : List Byte} {ab3 : Option Addr} {nb3 cb3 ib3 : Nat} (hb3 : Bx L ib3 ab3 nb3 cb3 b3) {data4 : List Byte} {adata4 : Option Addr} {ndata4 cdata4 idata4 : Nat} (hdata4 : Bx L idata4 adata4 ndata4 cdata4 data4) {r : Bool} (hR : lethelaw05_SealStreams key1 a2 b3 data4 r) (HST : St B w0 (L) w) :
    Calls Tryd.prog 3 #[AG [(32, fun q => VU .u8 (key1 q))], .slice aa2 na2 ca2, .slice ab3 nb3 cb3, .slice adata4 ndata4 cdata4] w fun e w' => e = .returned (.bool r) ∧ St B w0 (L) w' := by
  refine W.enter 86 Tryd.func3 rfl rfl rfl ?_
  unfold lethelaw05_SealStreams at hR
  have ea2 := ha2.hl; subst ea2
  have eb3 := hb3.hl; subst eb3
  have edata4 := hdata4.hl; subst edata4
  refine W.seq_k fun K5 hK5 => ?_
  refine W.regionT [(0, false), (1, true)] (by kernel_rfl) ?_
  refine Plan.boxA HST rfl rfl PIn.nil fun b6 w6 hb6 h6 => ?_
  simp only [rngs, Nat.zero_add, Nat.reduceAdd, List.cons_append, List.nil_append] at h6
  refine Plan.assign_bool rfl rfl ?_
  refine Plan.nil ?_
  refine hK5 _ _ ?_; clear hK5
  refine W.seq_k fun K7 hK7 => ?_
  refine W.regionT [(0, true), (1, false), (2, true), (3, false), (4, true), (5, false), (6, true), (7, true), (8, true)] (by kernel_rfl) ?_
  refine Plan.move_slice rfl rfl ?_
  obtain ⟨x_9, hr8, hR⟩ := hR
  refine Plan.call (vs := [.slice aa2 a2.length ca2, VN 512]) rfl FSealStreams.call9 rfl (lethelaw05_short_ok (ha2.app [_]) hr8 h6) ?_
  rintro _ w13 ⟨ay0_10, ny0_11, cy0_12, rfl, h13, hf13_0⟩
  obtain rfl := hf13_0.hl
  refine ⟨_, rfl, .inl ⟨PIn.keep PIn.nil h13, ?_⟩⟩
  refine Plan.move_slice rfl rfl ?_
  obtain ⟨x_15, hr14, hR⟩ := hR
  refine Plan.call (vs := [.slice ab3 b3.length cb3, VN 512]) rfl FSealStreams.call9 rfl (lethelaw05_short_ok (hb3.app [_]) hr14 h13) ?_
  rintro _ w19 ⟨ay0_16, ny0_17, cy0_18, rfl, h19, hf19_0⟩
  obtain rfl := hf19_0.hl
  refine ⟨_, rfl, .inl ⟨PIn.keep PIn.nil h19, ?_⟩⟩
  refine Plan.move_slice rfl rfl ?_
  obtain ⟨x_21, hr20, hR⟩ := hR
  refine Plan.call (vs := [.slice adata4 data4.length cdata4, VN 200]) rfl FSealStreams.call9 rfl (lethelaw05_short_ok (hdata4.app [_]) hr20 h19) ?_
  rintro _ w25 ⟨ay0_22, ny0_23, cy0_24, rfl, h25, hf25_0⟩
  obtain rfl := hf25_0.hl
  refine ⟨_, rfl, .inl ⟨PIn.keep PIn.nil h25, ?_⟩⟩
  refine Plan.assign_slice rfl rfl ?_
  refine Plan.assign_slice rfl rfl ?_
  refine Plan.assign_slice rfl rfl ?_
  refine Plan.nil ?_
  refine hK7 _ _ ?_; clear hK7
  refine W.seq_k fun K26 hK26 => ?_
  refine W.regionT [(0, true), (1, true), (2, true), (3, false), (4, true), (5, true), (6, true), (7, true), (8, true)] (by kernel_rfl) ?_
  refine Plan.loadA1 h25 0 rfl rfl rfl FSealStreams.agg23 ?_
  refine Plan.move_slice rfl rfl ?_
  refine Plan.move_slice rfl rfl ?_
  obtain ⟨x_28, x_29, hr27, hR⟩ := hR
  refine Plan.call (vs := [AG [(32, fun q => VU .u8 (key1 q))], .slice ay0_22 x_21.length cy0_24, .slice ay0_10 x_9.length cy0_12]) rfl FSealStreams.call10 rfl (seal_Seal_ok (iG0 := iG0 + 1) hG0 (iG1 := iG1 + 1) hG1 ((Bx.unapp (D := [_]) hf25_0).app [_]) ((Bx.unapp (D := [_]) hf13_0).app [_]) hr27 h25) ?_
  rintro _ w35 ⟨ay0_30, py0_31, ny0_32, cy0_33, Fy0_34, rfl, h35, hf35_0⟩
  obtain rfl := hf35_0.hl
  refine ⟨_, rfl, .inr ⟨rfl, ?_⟩⟩
  refine Plan.move_tuple rfl rfl ?_
  refine Plan.extract_slice rfl rfl rfl ?_
  refine Plan.extract_int rfl rfl rfl ?_
  refine Plan.assign_slice rfl rfl ?_
  refine Plan.assign_int rfl rfl ?_
  refine Plan.nil ?_
  refine hK26 _ _ ?_; clear hK26
  refine W.seq_k fun K36 hK36 => ?_
  refine W.regionT [(0, true), (1, true), (2, false), (3, true), (4, true), (5, true), (6, true), (7, true)] (by kernel_rfl) ?_
  refine Plan.loadA1 h35 1 rfl rfl rfl FSealStreams.agg23 ?_
  refine Plan.move_slice rfl rfl ?_
  obtain ⟨x_38, x_39, hr37, hR⟩ := hR
  refine Plan.call (vs := [AG [(32, fun q => VU .u8 (key1 q))], .slice none 0 0, .slice ay0_16 x_15.length cy0_18]) rfl FSealStreams.call10 rfl (seal_Seal_ok (iG0 := iG0 + 2) hG0 (iG1 := iG1 + 2) hG1 (by exact (Bx.nil 0)) ((Bx.unapp (D := [_]) hf19_0).app [_, _]) hr37 h35) ?_
  rintro _ w45 ⟨ay0_40, py0_41, ny0_42, cy0_43, Fy0_44, rfl, h45, hf45_0⟩
  obtain rfl := hf45_0.hl
  refine ⟨_, rfl, .inr ⟨rfl, ?_⟩⟩
  refine Plan.move_tuple rfl rfl ?_
  refine Plan.extract_slice rfl rfl rfl ?_
  refine Plan.extract_int rfl rfl rfl ?_
  refine Plan.assign_slice rfl rfl ?_
  refine Plan.assign_int rfl rfl ?_
  refine Plan.nil ?_
  refine hK36 _ _ ?_; clear hK36
  refine W.seq_k fun K46 hK46 => ?_
  refine W.seq_k fun K58 hK58 => ?_
  refine W.regionT [(0, true), (1, true), (2, true), (3, true), (4, true), (5, true), (6, true), (7, true), (8, true), (9, true), (10, true), (11, true), (12, true), (13, true), (14, true), (15, true), (16, true), (17, true), (18, true), (19, true), (20, true), (21, true)] (by kernel_rfl) ?_
  refine Plan.move_int rfl rfl ?_
  by_cases hc59 : x_29 ≠ 0
  ·
    replace hR := ifT hR hc59
    refine Plan.cmpV (a := (((x_29 : Nat) : Int) : Int)) (b := (0 : Int)) (p := x_29 ≠ 0) (v := true) rfl rfl rfl rfl icmp_neN (decide_eq_true hc59) ?_
    refine Plan.move_bool rfl rfl ?_
    refine Plan.passed rfl ?_
    refine Plan.passed rfl ?_
    refine Plan.pickTb rfl rfl rfl ?_
    refine Plan.move_bool rfl rfl ?_
    refine Plan.passed rfl ?_
    refine Plan.passed rfl ?_
    refine Plan.passed rfl ?_
    refine Plan.passed rfl ?_
    refine Plan.passed rfl ?_
    refine Plan.passed rfl ?_
    refine Plan.pickTb rfl rfl rfl ?_
    refine Plan.move_bool rfl rfl ?_
    refine Plan.passed rfl ?_
    refine Plan.passed rfl ?_
    refine Plan.passed rfl ?_
    refine Plan.passed rfl ?_
    refine Plan.passed rfl ?_
    refine Plan.passed rfl ?_
    refine Plan.pickTb rfl rfl rfl ?_
    refine Plan.nil ?_
    refine hK58 _ _ ?_; clear hK58
    refine W.condT rfl ?_
    refine W.seq_k fun K60 hK60 => ?_
    refine W.regionT [(0, true)] (by kernel_rfl) ?_
    refine Plan.assign_bool rfl rfl ?_
    refine Plan.nil ?_
    refine hK60 _ _ ?_; clear hK60
    refine W.ret (thenR_ret (finR_ret ?_))
    have h61 := St.pickT (C := [_, _, _]) h45 [] (by decide)
    simp only [pick, List.filterMap_cons, List.filterMap_nil, List.getElem?_cons_zero, List.getElem?_cons_succ, List.cons_append, List.nil_append] at h61
    subst r
    refine RetOk.mk (.tmp_bool rfl .nil) ?_
    exact ⟨rfl, h61⟩
  ·
    replace hR := ifF hR hc59
    refine Plan.cmpV (a := (((x_29 : Nat) : Int) : Int)) (b := (0 : Int)) (p := x_29 ≠ 0) (v := false) rfl rfl rfl rfl icmp_neN (decide_eq_false hc59) ?_
    refine Plan.move_bool rfl rfl ?_
    refine Plan.move_int rfl rfl ?_
    by_cases hc62 : x_39 ≠ 0
    ·
      replace hR := ifT hR hc62
      refine Plan.cmpV (a := (((x_39 : Nat) : Int) : Int)) (b := (0 : Int)) (p := x_39 ≠ 0) (v := true) rfl rfl rfl rfl icmp_neN (decide_eq_true hc62) ?_
      refine Plan.pickFb rfl rfl rfl ?_
      refine Plan.move_bool rfl rfl ?_
      refine Plan.passed rfl ?_
      refine Plan.passed rfl ?_
      refine Plan.passed rfl ?_
      refine Plan.passed rfl ?_
      refine Plan.passed rfl ?_
      refine Plan.passed rfl ?_
      refine Plan.pickTb rfl rfl rfl ?_
      refine Plan.move_bool rfl rfl ?_
      refine Plan.passed rfl ?_
      refine Plan.passed rfl ?_
      refine Plan.passed rfl ?_
      refine Plan.passed rfl ?_
      refine Plan.passed rfl ?_
      refine Plan.passed rfl ?_
      refine Plan.pickTb rfl rfl rfl ?_
      refine Plan.nil ?_
      refine hK58 _ _ ?_; clear hK58
      refine W.condT rfl ?_
      refine W.seq_k fun K63 hK63 => ?_
      refine W.regionT [(0, true)] (by kernel_rfl) ?_
      refine Plan.assign_bool rfl rfl ?_
      refine Plan.nil ?_
      refine hK63 _ _ ?_; clear hK63
      refine W.ret (thenR_ret (finR_ret ?_))
      have h64 := St.pickT (C := [_, _, _]) h45 [] (by decide)
      simp only [pick, List.filterMap_cons, List.filterMap_nil, List.getElem?_cons_zero, List.getElem?_cons_succ, List.cons_append, List.nil_append] at h64
      subst r
      refine RetOk.mk (.tmp_bool rfl .nil) ?_
      exact ⟨rfl, h64⟩
    ·
      replace hR := ifF hR hc62
      refine Plan.cmpV (a := (((x_39 : Nat) : Int) : Int)) (b := (0 : Int)) (p := x_39 ≠ 0) (v := false) rfl rfl rfl rfl icmp_neN (decide_eq_false hc62) ?_
      refine Plan.pickFb rfl rfl rfl ?_
      refine Plan.move_bool rfl rfl ?_
      refine Plan.move_slice rfl rfl ?_
      refine Plan.len FSealStreams.isl24 rfl rfl ?_
      refine Plan.move_slice rfl rfl ?_
      refine Plan.len FSealStreams.isl24 rfl rfl ?_
      obtain ⟨hc65, hR⟩ := hR
      refine Plan.addN (a := x_9.length) (b := 32) rfl rfl rfl (by omega) ?_
      by_cases hc66 : x_28.length ≠ (x_9.length + 32)
      ·
        replace hR := ifT hR hc66
        refine Plan.cmpV (a := (((x_28.length : Nat) : Int) : Int)) (b := ((((x_9.length + 32) : Nat) : Int) : Int)) (p := x_28.length ≠ (x_9.length + 32)) (v := true) rfl rfl rfl rfl icmp_neN (decide_eq_true hc66) ?_
        refine Plan.pickFb rfl rfl rfl ?_
        refine Plan.move_bool rfl rfl ?_
        refine Plan.passed rfl ?_
        refine Plan.passed rfl ?_
        refine Plan.passed rfl ?_
        refine Plan.passed rfl ?_
        refine Plan.passed rfl ?_
        refine Plan.passed rfl ?_
        refine Plan.pickTb rfl rfl rfl ?_
        refine Plan.nil ?_
        refine hK58 _ _ ?_; clear hK58
        refine W.condT rfl ?_
        refine W.seq_k fun K67 hK67 => ?_
        refine W.regionT [(0, true)] (by kernel_rfl) ?_
        refine Plan.assign_bool rfl rfl ?_
        refine Plan.nil ?_
        refine hK67 _ _ ?_; clear hK67
        refine W.ret (thenR_ret (finR_ret ?_))
        have h68 := St.pickT (C := [_, _, _]) h45 [] (by decide)
        simp only [pick, List.filterMap_cons, List.filterMap_nil, List.getElem?_cons_zero, List.getElem?_cons_succ, List.cons_append, List.nil_append] at h68
        subst r
        refine RetOk.mk (.tmp_bool rfl .nil) ?_
        exact ⟨rfl, h68⟩
      ·
        replace hR := ifF hR hc66
        refine Plan.cmpV (a := (((x_28.length : Nat) : Int) : Int)) (b := ((((x_9.length + 32) : Nat) : Int) : Int)) (p := x_28.length ≠ (x_9.length + 32)) (v := false) rfl rfl rfl rfl icmp_neN (decide_eq_false hc66) ?_
        refine Plan.pickFb rfl rfl rfl ?_
        refine Plan.move_bool rfl rfl ?_
        refine Plan.move_slice rfl rfl ?_
        refine Plan.len FSealStreams.isl24 rfl rfl ?_
        refine Plan.move_slice rfl rfl ?_
        refine Plan.len FSealStreams.isl24 rfl rfl ?_
        obtain ⟨hc69, hR⟩ := hR
        refine Plan.addN (a := x_15.length) (b := 32) rfl rfl rfl (by omega) ?_
        refine Plan.cmpP (a := (((x_38.length : Nat) : Int) : Int)) (b := ((((x_15.length + 32) : Nat) : Int) : Int)) (p := x_38.length ≠ (x_15.length + 32)) rfl rfl rfl rfl icmp_neN ?_
        refine Plan.pickFb rfl rfl rfl ?_
        refine Plan.nil ?_
        refine hK58 _ _ ?_; clear hK58
        by_cases hc70 : x_38.length ≠ (x_15.length + 32)
        ·
          replace hR := ifT hR hc70
          refine W.condT (congrArg Value.bool (decide_eq_true hc70)) ?_
          refine W.seq_k fun K71 hK71 => ?_
          refine W.regionT [(0, true)] (by kernel_rfl) ?_
          refine Plan.assign_bool rfl rfl ?_
          refine Plan.nil ?_
          refine hK71 _ _ ?_; clear hK71
          refine W.ret (thenR_ret (finR_ret ?_))
          have h72 := St.pickT (C := [_, _, _]) h45 [] (by decide)
          simp only [pick, List.filterMap_cons, List.filterMap_nil, List.getElem?_cons_zero, List.getElem?_cons_succ, List.cons_append, List.nil_append] at h72
          subst r
          refine RetOk.mk (.tmp_bool rfl .nil) ?_
          exact ⟨rfl, h72⟩
        ·
          replace hR := ifF hR hc70
          refine W.condF (congrArg Value.bool (decide_eq_false hc70)) ?_
          refine W.skip ?_
          refine hK46 _ _ ?_; clear hK46
          refine W.seq_k fun K73 hK73 => ?_
          refine W.seq_k fun K74 hK74 => ?_
          refine W.regionT [(0, true)] (by kernel_rfl) ?_
          refine Plan.assign_int rfl rfl ?_
          refine Plan.nil ?_
          refine hK74 _ _ ?_; clear hK74
          obtain ⟨x124, hI124, hR0124⟩ := hR
          refine W.cutN (fun e w => x124 = some () ∧ EnvHas e [] ∧ St B w0 (L) w) ?_ ?_
          ·
            refine W.block ?_
            have h125 := St.pickT (C := [_, _, _]) h45 [1, 0] (by decide)
            simp only [pick, List.filterMap_cons, List.filterMap_nil, List.getElem?_cons_zero, List.getElem?_cons_succ, List.cons_append, List.nil_append] at h125
            refine W.iter hI124 (fun (s124 : ((List Byte) × (List Byte) × Nat)) e w => ∃ as121 : Option Addr, ∃ ps121 : Option Nat, ∃ cs121 : Nat, ∃ Fs121 : Nat → Byte, ∃ at122 : Option Addr, ∃ pt122 : Option Nat, ∃ ct122 : Nat, ∃ Ft122 : Nat → Byte, EnvHas e [(1, .slice ay0_10 x_9.length cy0_12), (2, .slice ay0_16 x_15.length cy0_18), (9, .slice as121 x_28.length cs121), (11, .slice at122 x_38.length ct122), (13, VN s124.2.2)] ∧ St B w0 (⟨ps121, 0, cs121, fun q => VU .u8 (Fs121 q), true⟩ :: ⟨pt122, 0, ct122, fun q => VU .u8 (Ft122 q), true⟩ :: L) w ∧ Ow as121 ps121 x_28.length cs121 Fs121 s124.1 ∧ Ow at122 pt122 x_38.length ct122 Ft122 s124.2.1) ⟨ay0_30, py0_31, cy0_33, Fy0_34, ay0_40, py0_41, cy0_43, Fy0_44, (EnvHas.cons rfl (EnvHas.cons rfl (EnvHas.cons rfl (EnvHas.cons rfl (EnvHas.cons rfl EnvHas.nil))))), h125, hf35_0, hf45_0⟩ ?_
            rintro ⟨s121, t122, i_123⟩ o124 hR hx124 ev126 wl126 ⟨as121, ps121, cs121, Fs121, at122, pt122, ct122, Ft122, he126, h126, hs121, ht122⟩
            obtain ⟨ev126, rfl⟩ := he126.open
            unfold lethelaw05_SealStreams_l0 at hR
            refine W.seq_k fun K127 hK127 => ?_
            refine W.seq_k fun K131 hK131 => ?_
            refine W.regionT [(0, true), (1, true), (2, true), (3, true), (4, true), (5, true), (6, true), (7, true), (8, true), (9, true)] (by kernel_rfl) ?_
            refine Plan.move_int rfl rfl ?_
            refine Plan.move_slice rfl rfl ?_
            refine Plan.len FSealStreams.isl24 rfl rfl ?_
            by_cases hc132 : i_123 < x_9.length
            ·
              replace hR := ifT hR hc132
              refine Plan.cmpV (a := (((i_123 : Nat) : Int) : Int)) (b := (((x_9.length : Nat) : Int) : Int)) (p := i_123 < x_9.length) (v := true) rfl rfl rfl rfl icmp_ltN (decide_eq_true hc132) ?_
              refine Plan.move_bool rfl rfl ?_
              refine Plan.move_int rfl rfl ?_
              refine Plan.move_slice rfl rfl ?_
              refine Plan.len FSealStreams.isl24 rfl rfl ?_
              refine Plan.cmpP (a := (((i_123 : Nat) : Int) : Int)) (b := (((x_15.length : Nat) : Int) : Int)) (p := i_123 < x_15.length) rfl rfl rfl rfl icmp_ltN ?_
              refine Plan.pickTb rfl rfl rfl ?_
              refine Plan.nil ?_
              refine hK131 _ _ ?_; clear hK131
              by_cases hc133 : i_123 < x_15.length
              ·
                replace hR := ifT hR hc133
                refine W.condT (congrArg Value.bool (decide_eq_true hc133)) ?_
                refine W.skip ?_
                refine hK127 _ _ ?_; clear hK127
                refine W.seq_k fun K134 hK134 => ?_
                refine W.block ?_
                refine W.seq_k fun K135 hK135 => ?_
                refine W.regionD FSealStreams.mixed [(0, true), (1, true), (2, true), (3, true), (4, true), (5, true), (6, true), (7, true), (8, true), (9, true), (10, true), (11, true), (12, true), (13, true), (14, true), (15, true), (16, true), (17, true), (18, true)] (by kernel_rfl) ?_
                have h136 := h126.drew
                refine Plan.move_slice rfl rfl ?_
                refine Plan.move_int rfl rfl ?_
                obtain ⟨hc137, hR⟩ := hR
                refine Plan.idxVS (j := i_123) h136 (hs121.bx 0 rfl) FSealStreams.sl24 rfl rfl rfl hc137 ?_
                refine Plan.loadV (j := i_123) h136 (hs121.bx 0 rfl) rfl rfl hc137 FSealStreams.sc5 fun r138 hr138 => ?_
                refine Plan.move_slice rfl rfl ?_
                refine Plan.move_int rfl rfl ?_
                obtain ⟨hc139, hR⟩ := hR
                refine Plan.idxVS (j := i_123) h136 (ht122.bx 1 rfl) FSealStreams.sl24 rfl rfl rfl hc139 ?_
                refine Plan.loadV (j := i_123) h136 (ht122.bx 1 rfl) rfl rfl hc139 FSealStreams.sc5 fun r140 hr140 => ?_
                refine Plan.xorU .u8 (X := (lit s121 i_123)) (Y := (lit t122 i_123)) rfl rfl rfl ?_
                refine Plan.move_slice rfl rfl ?_
                refine Plan.move_int rfl rfl ?_
                obtain ⟨hc141, hR⟩ := hR
                refine Plan.idxVS (j := i_123) h136 ((Bx.unapp (D := [_]) hf13_0).app [_, _]) FSealStreams.sl24 rfl rfl rfl hc141 ?_
                refine Plan.loadV (j := i_123) h136 ((Bx.unapp (D := [_]) hf13_0).app [_, _]) rfl rfl hc141 FSealStreams.sc5 fun r142 hr142 => ?_
                refine Plan.move_slice rfl rfl ?_
                refine Plan.move_int rfl rfl ?_
                obtain ⟨hc143, hR⟩ := hR
                refine Plan.idxVS (j := i_123) h136 ((Bx.unapp (D := [_]) hf19_0).app [_, _]) FSealStreams.sl24 rfl rfl rfl hc143 ?_
                refine Plan.loadV (j := i_123) h136 ((Bx.unapp (D := [_]) hf19_0).app [_, _]) rfl rfl hc143 FSealStreams.sc5 fun r144 hr144 => ?_
                refine Plan.xorU .u8 (X := (lit x_9 i_123)) (Y := (lit x_15 i_123)) rfl rfl rfl ?_
                refine Plan.cmpP (a := (((lit s121 i_123) ^^^ (lit t122 i_123)).toNat : Int)) (b := (((lit x_9 i_123) ^^^ (lit x_15 i_123)).toNat : Int)) (p := ((lit s121 i_123) ^^^ (lit t122 i_123)) ≠ ((lit x_9 i_123) ^^^ (lit x_15 i_123))) rfl rfl rfl rfl icmp_neU ?_
                refine Plan.nil ?_
                refine hK135 _ _ ?_; clear hK135
                by_cases hc145 : ((lit s121 i_123) ^^^ (lit t122 i_123)) ≠ ((lit x_9 i_123) ^^^ (lit x_15 i_123))
                ·
                  replace hR := ifT hR hc145
                  refine W.condT (congrArg Value.bool (decide_eq_true hc145)) ?_
                  refine W.seq_k fun K146 hK146 => ?_
                  refine W.regionT [(0, true)] (by kernel_rfl) ?_
                  refine Plan.assign_bool rfl rfl ?_
                  refine Plan.nil ?_
                  refine hK146 _ _ ?_; clear hK146
                  refine W.ret (blockR_ret (thenR_ret (iterR_ret (blockR_ret (thenR_ret (thenR_ret (finR_ret ?_)))))))
                  have h147 := St.pickT (C := [_, _]) h136 [] (by decide)
                  simp only [pick, List.filterMap_cons, List.filterMap_nil, List.getElem?_cons_zero, List.getElem?_cons_succ, List.cons_append, List.nil_append] at h147
                  replace hR := hR.2
                  subst r
                  refine RetOk.mk (.tmp_bool rfl .nil) ?_
                  exact ⟨rfl, h147⟩
                ·
                  replace hR := ifF hR hc145
                  refine W.condF (congrArg Value.bool (decide_eq_false hc145)) ?_
                  refine W.skip ?_
                  refine blockR_norm ?_
                  refine hK134 _ _ ?_; clear hK134
                  refine W.regionT [(0, true), (1, true), (2, true)] (by kernel_rfl) ?_
                  refine Plan.move_int rfl rfl ?_
                  obtain ⟨hc148, hR⟩ := hR
                  refine Plan.addN (a := i_123) (b := 1) rfl rfl rfl (by omega) ?_
                  refine Plan.assign_int rfl rfl ?_
                  refine Plan.nil ?_
                  exact iterR_norm ⟨_, hR, as121, ps121, cs121, Fs121, at122, pt122, ct122, Ft122, (EnvHas.cons rfl (EnvHas.cons rfl (EnvHas.cons rfl (EnvHas.cons rfl (EnvHas.cons rfl EnvHas.nil))))), h136, hs121, ht122⟩
              ·
                replace hR := ifF hR hc133
                refine W.condF (congrArg Value.bool (decide_eq_false hc133)) ?_
                refine W.exit (thenR_exit (iterR_exit (blockR_here ?_)))
                have h149 := St.pickT (C := [_, _]) h126 [] (by decide)
                simp only [pick, List.filterMap_cons, List.filterMap_nil, List.getElem?_cons_zero, List.getElem?_cons_succ, List.cons_append, List.nil_append] at h149
                exact ⟨(hx124 _ hR).symm, EnvHas.nil, h149⟩
            ·
              replace hR := ifF hR hc132
              refine Plan.cmpV (a := (((i_123 : Nat) : Int) : Int)) (b := (((x_9.length : Nat) : Int) : Int)) (p := i_123 < x_9.length) (v := false) rfl rfl rfl rfl icmp_ltN (decide_eq_false hc132) ?_
              refine Plan.move_bool rfl rfl ?_
              refine Plan.passed rfl ?_
              refine Plan.passed rfl ?_
              refine Plan.passed rfl ?_
              refine Plan.passed rfl ?_
              refine Plan.pickFb rfl rfl rfl ?_
              refine Plan.nil ?_
              refine hK131 _ _ ?_; clear hK131
              refine W.condF rfl ?_
              refine W.exit (thenR_exit (iterR_exit (blockR_here ?_)))
              have h150 := St.pickT (C := [_, _]) h126 [] (by decide)
              simp only [pick, List.filterMap_cons, List.filterMap_nil, List.getElem?_cons_zero, List.getElem?_cons_succ, List.cons_append, List.nil_append] at h150
              exact ⟨(hx124 _ hR).symm, EnvHas.nil, h150⟩
          ·
            rintro ev151 wl151 ⟨hy151, he151, h151⟩
            obtain ⟨ev151, rfl⟩ := he151.open
            replace hR := hR0124  hy151
            refine hK73 _ _ ?_; clear hK73
            refine W.seq_k fun K152 hK152 => ?_
            refine W.regionT [(0, true)] (by kernel_rfl) ?_
            refine Plan.assign_bool rfl rfl ?_
            refine Plan.nil ?_
            refine hK152 _ _ ?_; clear hK152
            refine W.ret (finR_ret ?_)
            subst r
            refine RetOk.mk (.tmp_bool rfl .nil) ?_
            exact ⟨rfl, h151⟩

end Go.Proofs.YthjkmhdgenmnoaaDoor
