/-
  WALKS of the package's functions, printed by this session's own program (auto.py).
-/
import Derived.Test.YtjblfkmmbpcpaaaDoorProg
import Derived.Test.YtjblfkmmbpcpaaaDoorEb
import Derived.Test.YtjblfkmmbpcpaaaDoorRCurveLow
import Derived.Test.YtjblfkmmbpcpaaaDoorEls
import Derived.Test.YtjblfkmmbpcpaaaDoorWCurve
import Derived.Test.YtjblfkmmbpcpaaaDoorWLaw07
namespace Go.Proofs.YtjblfkmmbpcpaaaDoor
set_option linter.unusedSimpArgs false
set_option linter.unusedVariables false
set_option linter.unusedSectionVars false
open Go Go.LW
theorem FCurveLow.mixed : Tryd.prog.follows .mixedOrders = true := by kernel_rfl
theorem FCurveLow.agg23 : aggT Tryd.prog 23 32 = true := by kernel_rfl
theorem FCurveLow.arr23 : arrB Tryd.prog 23 32 1 = true := by kernel_rfl
theorem FCurveLow.sc5 : scalarT Tryd.prog 5 = true := by kernel_rfl
theorem FCurveLow.z23 : zeroIs Tryd.prog 23 [(32, fun _ => VU .u8 0#8)] := zeroIs_agg (by kernel_rfl)
theorem FCurveLow.sz5 : szT Tryd.prog 5 1 = true := by kernel_rfl
theorem FCurveLow.sz23 : szT Tryd.prog 23 32 = true := by kernel_rfl
theorem FCurveLow.arrI23 : arrIB Tryd.prog 23 32 .u8 = true := by kernel_rfl
theorem FCurveLow.call24 : callB Tryd.prog 24 = true := by kernel_rfl
theorem FCurveLow.row23 : rowB Tryd.prog 23 = true := by kernel_rfl
theorem FCurveLow.call28 : callB Tryd.prog 28 = true := by kernel_rfl
theorem FCurveLow.call23 : callB Tryd.prog 23 = true := by kernel_rfl
theorem FCurveLow.fld58_0 : fieldB Tryd.prog 58 0 0 = true := by kernel_rfl
theorem FCurveLow.fld58_1 : fieldB Tryd.prog 58 1 32 = true := by kernel_rfl
theorem FCurveLow.fld58_2 : fieldB Tryd.prog 58 2 64 = true := by kernel_rfl
theorem FCurveLow.sc3 : scalarT Tryd.prog 3 = true := by kernel_rfl
theorem FCurveLow.fld58_3 : fieldB Tryd.prog 58 3 65 = true := by kernel_rfl
theorem FCurveLow.sc4 : scalarT Tryd.prog 4 = true := by kernel_rfl
theorem FCurveLow.call27 : callB Tryd.prog 27 = true := by kernel_rfl
theorem FCurveLow.sl59 : slB Tryd.prog 59 32 = true := by kernel_rfl
theorem FCurveLow.isl59 : ∃ el, Tryd.prog.underlying 59 = some (.slice el) := ⟨23, by kernel_rfl⟩

set_option maxRecDepth 8000 in
set_option maxHeartbeats 1000000 in
theorem lethelaw07_CurveLow_ok {B : Nat} {w0 w : World} {L : List Rg} {iG0 : Nat} (hG0 : L[iG0]? = some ⟨some 0, 0, 5, fun q => VU .u64 (twice5 q), false⟩) {cK1 : Nat → BitVec 8} {cU2 : Nat → BitVec 8} {cWhich3 : Int} {cTop4 : Bool} {r : Bool} (hR : lethelaw07_CurveLow cK1 cU2 cWhich3 cTop4 r) (HST : St B w0 (L) w) :
    Calls Tryd.prog 9 #[AG [(32, fun q => VU .u8 (cK1 q)), (32, fun q => VU .u8 (cU2 q)), (1, fun _ => .int .i64 cWhich3), (1, fun _ => .bool cTop4)]] w fun e w' => e = .returned (.bool r) ∧ St B w0 (L) w' := by
  refine W.enter 105 Tryd.func9 rfl rfl rfl ?_
  unfold lethelaw07_CurveLow at hR
  refine W.seq_k fun K5 hK5 => ?_
  refine W.regionT [(0, false), (1, true)] (by kernel_rfl) ?_
  refine Plan.boxA HST rfl rfl PIn.nil fun b6 w6 hb6 h6 => ?_
  simp only [rngs, Nat.zero_add, Nat.reduceAdd, List.cons_append, List.nil_append] at h6
  refine Plan.assign_bool rfl rfl ?_
  refine Plan.nil ?_
  refine hK5 _ _ ?_; clear hK5
  refine W.seq_k fun K7 hK7 => ?_
  refine W.regionX (B := B) (w0 := w0) (L := L) FCurveLow.mixed [⟨8, 3, 23, [(32, fun q => VU .u8 ((fun _ => 0#8) q))]⟩, ⟨9, 4, 23, [(32, fun q => VU .u8 ((fun _ => 0#8) q))]⟩] [(0, true), (1, true), (2, true), (3, true), (4, true), (5, true), (6, true), (7, true)] [] [(10, false), (11, false), (12, true), (13, true)] (by kernel_rfl) (by kernel_rfl) (.cons FCurveLow.z23 (.cons FCurveLow.z23 .nil)) ?_
  have h8 := h6.drew
  refine Plan.fieldAddr0 FCurveLow.fld58_0 rfl rfl ?_
  refine Plan.loadA1 h8 0 rfl rfl rfl FCurveLow.agg23 ?_
  refine Plan.fieldAddr 32 FCurveLow.fld58_1 rfl rfl ?_
  refine Plan.loadA1 h8 1 rfl rfl rfl FCurveLow.agg23 ?_
  refine Plan.fieldAddr 64 FCurveLow.fld58_2 rfl rfl ?_
  refine Plan.load0 h8 2 rfl rfl rfl (by omega) FCurveLow.sc3 ?_
  refine Plan.fieldAddr 65 FCurveLow.fld58_3 rfl rfl ?_
  refine Plan.load0 h8 3 rfl rfl rfl (by omega) FCurveLow.sc4 ?_
  refine Plan.nil ⟨[_, _, _, _], h8, (PIn.cons 3 rfl (PIn.cons 2 rfl (PIn.cons 1 rfl (PIn.cons 0 rfl PIn.nil)))), ?_⟩
  refine PX.done (KE.step fun b9_8 => (KE.step fun b9_9 => (KE.fin fun w9 h9 => ?_)))
  simp only [rngs, Nat.zero_add, Nat.reduceAdd, List.cons_append, List.nil_append] at h9
  refine Plan.storeP (ps := [(32, fun q => VU .u8 (cK1 q))]) h9 rfl rfl rfl (.cons 4 rfl .nil) ⟨fun _ _ => rfl, trivial⟩ FCurveLow.sz23 (EffO.mix _ (Filt.keep rfl (Filt.keep rfl (Filt.keep rfl (Filt.drop rfl Filt.nil)))) (PIn.cons 3 rfl (PIn.cons 2 rfl (PIn.cons 1 rfl PIn.nil)))) fun w10 h10 => ?_
  simp only [List.cons_append, List.nil_append, List.set_cons_zero, List.set_cons_succ] at h10
  refine Plan.storeP (ps := [(32, fun q => VU .u8 (cU2 q))]) h10 rfl rfl rfl (.cons 5 rfl .nil) ⟨fun _ _ => rfl, trivial⟩ FCurveLow.sz23 (EffO.mix _ (Filt.keep rfl (Filt.keep rfl (Filt.drop rfl Filt.nil))) (PIn.cons 3 rfl (PIn.cons 2 rfl PIn.nil))) fun w11 h11 => ?_
  simp only [List.cons_append, List.nil_append, List.set_cons_zero, List.set_cons_succ] at h11
  refine Plan.assign_int rfl rfl ?_
  refine Plan.assign_bool rfl rfl ?_
  refine Plan.nil ?_
  refine hK7 _ _ ?_; clear hK7
  refine W.seq_k fun K12 hK12 => ?_
  refine W.regionT [(0, false), (1, true)] (by kernel_rfl) ?_
  obtain ⟨x_14, hr13, hR⟩ := hR
  refine Plan.call (vs := []) rfl FCurveLow.call27 rfl (lethelaw07_low_ok  hr13 h11) ?_
  rintro _ w20 ⟨ay0_15, py0_16, ny0_17, cy0_18, Fy0_19, rfl, h20, hf20_0⟩
  obtain rfl := hf20_0.hl
  refine ⟨_, rfl, .inl ⟨PIn.keep PIn.nil h20, ?_⟩⟩
  refine Plan.assign_slice rfl rfl ?_
  refine Plan.nil ?_
  refine hK12 _ _ ?_; clear hK12
  refine W.seq_k fun K21 hK21 => ?_
  refine W.regionT [(0, true), (1, true), (2, true)] (by kernel_rfl) ?_
  refine Plan.move_int rfl rfl ?_
  have hb22 := tmod_bd cWhich3 (c := 6) (by decide)
  refine Plan.remI (a := cWhich3) (b := 6) rfl rfl rfl (by omega) ?_
  refine Plan.assign_int rfl rfl ?_
  refine Plan.nil ?_
  refine hK21 _ _ ?_; clear hK21
  refine W.seq_k fun K23 hK23 => ?_
  obtain ⟨n_26, hX27, hR027⟩ := hR
  refine W.cutN (fun e w => ∃ y_n_26 : Int, (n_26 = y_n_26) ∧ EnvHas e [(3, .pointer (some ⟨b9_8, 0, none⟩)), (4, .pointer (some ⟨b9_9, 0, none⟩)), (6, .bool cTop4), (7, .slice ay0_15 x_14.length cy0_18), (8, .int .i64 y_n_26)] ∧ St B w0 (⟨py0_16, 0, cy0_18 * 32, Fy0_19, true⟩ :: ⟨some b9_8, 0, 32, fun q => VU .u8 (cK1 q), true⟩ :: ⟨some b9_9, 0, 32, fun q => VU .u8 (cU2 q), true⟩ :: L) w) ?_ ?_
  ·
    replace hR := hX27
    refine W.seq_k fun K28 hK28 => ?_
    refine W.regionT [(0, true), (1, true)] (by kernel_rfl) ?_
    refine Plan.move_int rfl rfl ?_
    refine Plan.cmpP (a := ((cWhich3.tmod 6) : Int)) (b := (0 : Int)) (p := (cWhich3.tmod 6) < 0) rfl rfl rfl rfl icmp_lt ?_
    refine Plan.nil ?_
    refine hK28 _ _ ?_; clear hK28
    by_cases hc29 : (cWhich3.tmod 6) < 0
    ·
      replace hR := ifT hR hc29
      refine W.condT (congrArg Value.bool (decide_eq_true hc29)) ?_
      refine W.regionT [(0, true), (1, true), (2, true)] (by kernel_rfl) ?_
      refine Plan.move_int rfl rfl ?_
      refine Plan.addI (a := (cWhich3.tmod 6)) (b := 6) rfl rfl rfl (by omega) ?_
      refine Plan.assign_int rfl rfl ?_
      refine Plan.nil ?_
      have h30 := St.pickT (C := [_, _, _, _, _, _, _]) h20 [0, 5, 6] (by decide)
      simp only [pick, List.filterMap_cons, List.filterMap_nil, List.getElem?_cons_zero, List.getElem?_cons_succ, List.cons_append, List.nil_append] at h30
      exact ⟨((cWhich3.tmod 6) + 6), hR, (EnvHas.cons rfl (EnvHas.cons rfl (EnvHas.cons rfl (EnvHas.cons rfl (EnvHas.cons rfl EnvHas.nil))))), h30⟩
    ·
      replace hR := ifF hR hc29
      refine W.condF (congrArg Value.bool (decide_eq_false hc29)) ?_
      refine W.skip ?_
      have h31 := St.pickT (C := [_, _, _, _, _, _, _]) h20 [0, 5, 6] (by decide)
      simp only [pick, List.filterMap_cons, List.filterMap_nil, List.getElem?_cons_zero, List.getElem?_cons_succ, List.cons_append, List.nil_append] at h31
      exact ⟨(cWhich3.tmod 6), hR, (EnvHas.cons rfl (EnvHas.cons rfl (EnvHas.cons rfl (EnvHas.cons rfl (EnvHas.cons rfl EnvHas.nil))))), h31⟩
  ·
    rintro ev32 wl32 ⟨y_n_26, hy32_0, he32, h32⟩
    subst hy32_0
    obtain ⟨ev32, rfl⟩ := he32.open
    replace hR := hR027
    refine hK23 _ _ ?_; clear hK23
    refine W.seq_k fun K33 hK33 => ?_
    obtain ⟨m39, hX40, hR040⟩ := hR
    refine W.cutN (fun e w => ∃ y_m39 : Nat → BitVec 8, (m39 = y_m39) ∧ EnvHas e [(3, .pointer (some ⟨b9_8, 0, none⟩)), (4, .pointer (some ⟨b9_9, 0, none⟩)), (6, .bool cTop4), (7, .slice ay0_15 x_14.length cy0_18)] ∧ St B w0 (⟨py0_16, 0, cy0_18 * 32, Fy0_19, true⟩ :: ⟨some b9_8, 0, 32, fun q => VU .u8 (cK1 q), true⟩ :: ⟨some b9_9, 0, 32, fun q => VU .u8 (y_m39 q), true⟩ :: L) w) ?_ ?_
    ·
      replace hR := hX40
      refine W.seq_k fun K41 hK41 => ?_
      refine W.regionT [(0, true), (1, true)] (by kernel_rfl) ?_
      refine Plan.move_int rfl rfl ?_
      refine Plan.cmpP (a := (n_26 : Int)) (b := (5 : Int)) (p := n_26 < 5) rfl rfl rfl rfl icmp_lt ?_
      refine Plan.nil ?_
      refine hK41 _ _ ?_; clear hK41
      by_cases hc42 : n_26 < 5
      ·
        replace hR := ifT hR hc42
        refine W.condT (congrArg Value.bool (decide_eq_true hc42)) ?_
        refine W.regionT [(0, true), (1, true), (2, true), (3, true), (4, false)] (by kernel_rfl) ?_
        refine Plan.move_slice rfl rfl ?_
        refine Plan.move_int rfl rfl ?_
        obtain ⟨hc43, hR⟩ := hR
        refine Plan.idxLVS (D := D23) (j := n_26.toNat) h32 (LO.lvf D23_flat hf20_0 0 rfl) FCurveLow.sl59 rfl rfl (congrArg (Value.int .i64) (Int.toNat_of_nonneg hc43.1).symm) (toNat_lt hc43.1 hc43.2) ?_
        refine Plan.loadLV (D := D23) (X := x_14) (j := n_26.toNat) (sz := 32) h32 (fun _ => 0#8) (LO.lvf D23_flat hf20_0 0 rfl) rfl rfl (toNat_lt hc43.1 hc43.2) rfl FCurveLow.agg23 fun b44 r44 hs44 hr44 => ?_
        refine Plan.storeA (f' := fun q => VU .u8 ((x_14.getD n_26.toNat (fun _ => 0#8)) q)) h32 2 rfl rfl rfl rfl (fun _ _ => rfl) FCurveLow.sz23 rfl fun w45 h45 => ?_
        simp only [List.cons_append, List.nil_append, List.set_cons_zero, List.set_cons_succ] at h45
        refine Plan.nil ?_
        exact ⟨(x_14.getD n_26.toNat (fun _ => 0#8)), hR, (EnvHas.cons rfl (EnvHas.cons rfl (EnvHas.cons rfl (EnvHas.cons rfl EnvHas.nil)))), h45⟩
      ·
        replace hR := ifF hR hc42
        refine W.condF (congrArg Value.bool (decide_eq_false hc42)) ?_
        refine W.skip ?_
        exact ⟨cU2, hR, (EnvHas.cons rfl (EnvHas.cons rfl (EnvHas.cons rfl (EnvHas.cons rfl EnvHas.nil)))), h32⟩
    ·
      rintro ev46 wl46 ⟨y_m39, hy46_0, he46, h46⟩
      subst hy46_0
      obtain ⟨ev46, rfl⟩ := he46.open
      replace hR := hR040
      refine hK33 _ _ ?_; clear hK33
      refine W.seq_k fun K47 hK47 => ?_
      obtain ⟨m51, hX52, hR052⟩ := hR
      refine W.cutN (fun e w => ∃ y_m51 : Nat → BitVec 8, (m51 = y_m51) ∧ EnvHas e [(3, .pointer (some ⟨b9_8, 0, none⟩)), (4, .pointer (some ⟨b9_9, 0, none⟩)), (7, .slice ay0_15 x_14.length cy0_18)] ∧ St B w0 (⟨py0_16, 0, cy0_18 * 32, Fy0_19, true⟩ :: ⟨some b9_8, 0, 32, fun q => VU .u8 (cK1 q), true⟩ :: ⟨some b9_9, 0, 32, fun q => VU .u8 (y_m51 q), true⟩ :: L) w) ?_ ?_
      ·
        replace hR := hX52
        refine W.seq_k fun K53 hK53 => ?_
        refine W.regionT [(0, true)] (by kernel_rfl) ?_
        refine Plan.move_bool rfl rfl ?_
        refine Plan.nil ?_
        refine hK53 _ _ ?_; clear hK53
        by_cases hc54 : cTop4 = true
        ·
          replace hR := ifT hR hc54
          refine W.condT (congrArg Value.bool hc54) ?_
          refine W.regionT [(0, true), (1, true), (2, true), (3, true), (4, false)] (by kernel_rfl) ?_
          refine Plan.idxArr1 (j := 31) FCurveLow.arr23 rfl rfl rfl (by omega) ?_
          refine Plan.load1 (j := 31) h46 2 rfl rfl rfl (by omega) FCurveLow.sc5 ?_
          refine Plan.xorU .u8 (X := (m39 31)) (Y := 128#8) rfl rfl rfl ?_
          refine Plan.idxArr1 (j := 31) FCurveLow.arr23 rfl rfl rfl (by omega) ?_
          refine Plan.storeU (j := 31) (X := ((m39 31) ^^^ (128#8))) h46 2 rfl rfl rfl rfl (by omega) FCurveLow.sz5 rfl fun w55 h55 => ?_
          simp only [List.cons_append, List.nil_append, List.set_cons_zero, List.set_cons_succ] at h55
          refine Plan.nil ?_
          exact ⟨(upd m39 31 ((m39 31) ^^^ (128#8))), hR, (EnvHas.cons rfl (EnvHas.cons rfl (EnvHas.cons rfl EnvHas.nil))), h55⟩
        ·
          replace hR := ifF hR hc54
          refine W.condF (congrArg Value.bool (Bool.eq_false_iff.2 hc54)) ?_
          refine W.skip ?_
          exact ⟨m39, hR, (EnvHas.cons rfl (EnvHas.cons rfl (EnvHas.cons rfl EnvHas.nil))), h46⟩
      ·
        rintro ev56 wl56 ⟨y_m51, hy56_0, he56, h56⟩
        subst hy56_0
        obtain ⟨ev56, rfl⟩ := he56.open
        replace hR := hR052
        refine hK47 _ _ ?_; clear hK47
        refine W.seq_k fun K57 hK57 => ?_
        refine W.regionT [(0, true), (1, true), (2, false), (3, true), (4, true), (5, true), (6, false), (7, false), (8, true)] (by kernel_rfl) ?_
        refine Plan.loadA1 h56 1 rfl rfl rfl FCurveLow.agg23 ?_
        refine Plan.loadA1 h56 2 rfl rfl rfl FCurveLow.agg23 ?_
        obtain ⟨x_59, x_60, hr58, hR⟩ := hR
        refine Plan.call (vs := [AG [(32, fun q => VU .u8 (cK1 q))], AG [(32, fun q => VU .u8 (m51 q))]]) rfl FCurveLow.call28 rfl (curve_Shared_ok (iG0 := iG0 + 3) hG0 hr58 h56) ?_
        rintro _ w61 ⟨rfl, h61⟩
        refine ⟨_, rfl, .inr ⟨rfl, ?_⟩⟩
        refine Plan.move_tuple rfl rfl ?_
        refine Plan.extract_agg rfl rfl rfl ?_
        refine Plan.extract_int rfl rfl rfl ?_
        refine Plan.alloc h61 rfl FCurveLow.z23 PIn.nil fun b62 w62 hb62 h62 => ?_
        simp only [rngs, Nat.zero_add, Nat.reduceAdd, List.cons_append, List.nil_append] at h62
        refine Plan.storeA (f' := fun q => VU .u8 (x_59 q)) h62 0 rfl rfl rfl rfl (fun _ _ => rfl) FCurveLow.sz23 rfl fun w63 h63 => ?_
        simp only [List.cons_append, List.nil_append, List.set_cons_zero, List.set_cons_succ] at h63
        refine Plan.assign_int rfl rfl ?_
        refine Plan.nil ?_
        refine hK57 _ _ ?_; clear hK57
        refine W.seq_k fun K64 hK64 => ?_
        refine W.regionT [(0, true), (1, false), (2, false)] (by kernel_rfl) ?_
        refine Plan.loadA1 h63 3 rfl rfl rfl FCurveLow.agg23 ?_
        refine Plan.alloc h63 rfl FCurveLow.z23 (PIn.cons 3 rfl PIn.nil) fun b65 w65 hb65 h65 => ?_
        simp only [rngs, Nat.zero_add, Nat.reduceAdd, List.cons_append, List.nil_append] at h65
        refine Plan.storeA (f' := fun q => VU .u8 (m51 q)) h65 0 rfl rfl rfl rfl (fun _ _ => rfl) FCurveLow.sz23 rfl fun w66 h66 => ?_
        simp only [List.cons_append, List.nil_append, List.set_cons_zero, List.set_cons_succ] at h66
        refine Plan.nil ?_
        refine hK64 _ _ ?_; clear hK64
        refine W.seq_k fun K67 hK67 => ?_
        refine W.regionT [(0, true), (1, true), (2, true), (3, true), (4, false)] (by kernel_rfl) ?_
        refine Plan.idxArr1 (j := 31) FCurveLow.arr23 rfl rfl rfl (by omega) ?_
        refine Plan.load1 (j := 31) h66 0 rfl rfl rfl (by omega) FCurveLow.sc5 ?_
        refine Plan.andU .u8 (X := (m51 31)) (Y := 127#8) rfl rfl rfl ?_
        refine Plan.idxArr1 (j := 31) FCurveLow.arr23 rfl rfl rfl (by omega) ?_
        refine Plan.storeU (j := 31) (X := ((m51 31) &&& (127#8))) h66 0 rfl rfl rfl rfl (by omega) FCurveLow.sz5 rfl fun w68 h68 => ?_
        simp only [List.cons_append, List.nil_append, List.set_cons_zero, List.set_cons_succ] at h68
        refine Plan.nil ?_
        refine hK67 _ _ ?_; clear hK67
        refine W.seq_k fun K69 hK69 => ?_
        refine W.regionT [(0, true), (1, true), (2, true), (3, true)] (by kernel_rfl) ?_
        refine Plan.loadA1 h68 0 rfl rfl rfl FCurveLow.agg23 ?_
        refine Plan.buildArr (ps := [(32, fun q => VU .u8 ((lit [237#8, 255#8, 255#8, 255#8, 255#8, 255#8, 255#8, 255#8, 255#8, 255#8, 255#8, 255#8, 255#8, 255#8, 255#8, 255#8, 255#8, 255#8, 255#8, 255#8, 255#8, 255#8, 255#8, 255#8, 255#8, 255#8, 255#8, 255#8, 255#8, 255#8, 255#8, 127#8]) q))]) FCurveLow.arr23 FCurveLow.z23 rfl rfl (by kernel_rfl) ?_
        refine Plan.eqArrV (b := (eqB 32 (upd m51 31 ((m51 31) &&& (127#8))) (lit [237#8, 255#8, 255#8, 255#8, 255#8, 255#8, 255#8, 255#8, 255#8, 255#8, 255#8, 255#8, 255#8, 255#8, 255#8, 255#8, 255#8, 255#8, 255#8, 255#8, 255#8, 255#8, 255#8, 255#8, 255#8, 255#8, 255#8, 255#8, 255#8, 255#8, 255#8, 127#8]))) FCurveLow.arrI23 rfl rfl rfl rfl ?_
        refine Plan.assign_bool rfl rfl ?_
        refine Plan.nil ?_
        refine hK69 _ _ ?_; clear hK69
        refine W.seq_k fun K70 hK70 => ?_
        obtain ⟨bad73, hX74, hR074⟩ := hR
        refine W.cutN (fun e w => ∃ y_bad73 : Bool, (bad73 = y_bad73) ∧ EnvHas e [(3, .pointer (some ⟨b9_8, 0, none⟩)), (4, .pointer (some ⟨b9_9, 0, none⟩)), (7, .slice ay0_15 x_14.length cy0_18), (9, .pointer (some ⟨b62, 0, none⟩)), (10, VN x_60), (11, .pointer (some ⟨b65, 0, none⟩)), (12, .bool y_bad73)] ∧ St B w0 (⟨some b65, 0, 32, fun q => VU .u8 ((upd m51 31 ((m51 31) &&& (127#8))) q), true⟩ :: ⟨some b62, 0, 32, fun q => VU .u8 (x_59 q), true⟩ :: ⟨py0_16, 0, cy0_18 * 32, Fy0_19, true⟩ :: ⟨some b9_8, 0, 32, fun q => VU .u8 (cK1 q), true⟩ :: ⟨some b9_9, 0, 32, fun q => VU .u8 (m51 q), true⟩ :: L) w) ?_ ?_
        ·
          replace hR := hX74
          refine W.regionT [(0, true), (1, true), (2, true), (3, true), (4, true), (5, true), (6, true)] (by kernel_rfl) ?_
          by_cases hc75 : (eqB 32 (upd m51 31 ((m51 31) &&& (127#8))) (lit [237#8, 255#8, 255#8, 255#8, 255#8, 255#8, 255#8, 255#8, 255#8, 255#8, 255#8, 255#8, 255#8, 255#8, 255#8, 255#8, 255#8, 255#8, 255#8, 255#8, 255#8, 255#8, 255#8, 255#8, 255#8, 255#8, 255#8, 255#8, 255#8, 255#8, 255#8, 127#8])) = true
          ·
            replace hR := ifT hR hc75
            refine Plan.move_bool (b := true) rfl (congrArg Value.bool hc75) ?_
            refine Plan.move_bool rfl rfl ?_
            refine Plan.passed rfl ?_
            refine Plan.passed rfl ?_
            refine Plan.passed rfl ?_
            refine Plan.pickTb rfl rfl rfl ?_
            refine Plan.assign_bool rfl rfl ?_
            refine Plan.nil ?_
            exact ⟨true, hR, (EnvHas.cons rfl (EnvHas.cons rfl (EnvHas.cons rfl (EnvHas.cons rfl (EnvHas.cons rfl (EnvHas.cons rfl (EnvHas.cons rfl EnvHas.nil))))))), h68⟩
          ·
            replace hR := ifF hR hc75
            refine Plan.move_bool (b := false) rfl (congrArg Value.bool (Bool.eq_false_iff.2 hc75)) ?_
            refine Plan.move_bool rfl rfl ?_
            refine Plan.loadA1 h68 0 rfl rfl rfl FCurveLow.agg23 ?_
            refine Plan.buildArr (ps := [(32, fun q => VU .u8 ((lit [238#8, 255#8, 255#8, 255#8, 255#8, 255#8, 255#8, 255#8, 255#8, 255#8, 255#8, 255#8, 255#8, 255#8, 255#8, 255#8, 255#8, 255#8, 255#8, 255#8, 255#8, 255#8, 255#8, 255#8, 255#8, 255#8, 255#8, 255#8, 255#8, 255#8, 255#8, 127#8]) q))]) FCurveLow.arr23 FCurveLow.z23 rfl rfl (by kernel_rfl) ?_
            by_cases hc76 : (eqB 32 (upd m51 31 ((m51 31) &&& (127#8))) (lit [238#8, 255#8, 255#8, 255#8, 255#8, 255#8, 255#8, 255#8, 255#8, 255#8, 255#8, 255#8, 255#8, 255#8, 255#8, 255#8, 255#8, 255#8, 255#8, 255#8, 255#8, 255#8, 255#8, 255#8, 255#8, 255#8, 255#8, 255#8, 255#8, 255#8, 255#8, 127#8])) = true
            ·
              replace hR := ifT hR hc76
              refine Plan.eqArrV (b := true) FCurveLow.arrI23 rfl rfl rfl hc76 ?_
              refine Plan.pickFb rfl rfl rfl ?_
              refine Plan.assign_bool rfl rfl ?_
              refine Plan.nil ?_
              exact ⟨true, hR, (EnvHas.cons rfl (EnvHas.cons rfl (EnvHas.cons rfl (EnvHas.cons rfl (EnvHas.cons rfl (EnvHas.cons rfl (EnvHas.cons rfl EnvHas.nil))))))), h68⟩
            ·
              replace hR := ifF hR hc76
              refine Plan.eqArrV (b := false) FCurveLow.arrI23 rfl rfl rfl (Bool.eq_false_iff.2 hc76) ?_
              refine Plan.pickFb rfl rfl rfl ?_
              refine Plan.assign_bool rfl rfl ?_
              refine Plan.nil ?_
              exact ⟨false, hR, (EnvHas.cons rfl (EnvHas.cons rfl (EnvHas.cons rfl (EnvHas.cons rfl (EnvHas.cons rfl (EnvHas.cons rfl (EnvHas.cons rfl EnvHas.nil))))))), h68⟩
        ·
          rintro ev77 wl77 ⟨y_bad73, hy77_0, he77, h77⟩
          subst hy77_0
          obtain ⟨ev77, rfl⟩ := he77.open
          replace hR := hR074
          refine hK70 _ _ ?_; clear hK70
          refine W.seq_k fun K78 hK78 => ?_
          refine W.seq_k fun K79 hK79 => ?_
          refine W.regionT [(0, true)] (by kernel_rfl) ?_
          refine Plan.assign_int rfl rfl ?_
          refine Plan.nil ?_
          refine hK79 _ _ ?_; clear hK79
          obtain ⟨bad105, hI106, hR0106⟩ := hR
          refine W.cutN (fun e w => ∃ y_bad105 : Bool, bad105 = y_bad105 ∧ EnvHas e [(3, .pointer (some ⟨b9_8, 0, none⟩)), (4, .pointer (some ⟨b9_9, 0, none⟩)), (9, .pointer (some ⟨b62, 0, none⟩)), (10, VN x_60), (12, .bool y_bad105)] ∧ St B w0 (⟨some b62, 0, 32, fun q => VU .u8 (x_59 q), true⟩ :: ⟨some b9_8, 0, 32, fun q => VU .u8 (cK1 q), true⟩ :: ⟨some b9_9, 0, 32, fun q => VU .u8 (m51 q), true⟩ :: L) w) ?_ ?_
          ·
            refine W.block ?_
            refine W.iter hI106 (fun (s106 : (Bool × Nat)) e w => EnvHas e [(3, .pointer (some ⟨b9_8, 0, none⟩)), (4, .pointer (some ⟨b9_9, 0, none⟩)), (7, .slice ay0_15 x_14.length cy0_18), (9, .pointer (some ⟨b62, 0, none⟩)), (10, VN x_60), (11, .pointer (some ⟨b65, 0, none⟩)), (12, .bool s106.1), (13, VN s106.2)] ∧ St B w0 (⟨some b65, 0, 32, fun q => VU .u8 ((upd m51 31 ((m51 31) &&& (127#8))) q), true⟩ :: ⟨some b62, 0, 32, fun q => VU .u8 (x_59 q), true⟩ :: ⟨py0_16, 0, cy0_18 * 32, Fy0_19, true⟩ :: ⟨some b9_8, 0, 32, fun q => VU .u8 (cK1 q), true⟩ :: ⟨some b9_9, 0, 32, fun q => VU .u8 (m51 q), true⟩ :: L) w) ⟨(EnvHas.cons rfl (EnvHas.cons rfl (EnvHas.cons rfl (EnvHas.cons rfl (EnvHas.cons rfl (EnvHas.cons rfl (EnvHas.cons rfl (EnvHas.cons rfl EnvHas.nil)))))))), h77⟩ ?_
            rintro ⟨bad103, i_104⟩ o106 hR hx106 ev107 wl107 ⟨he107, h107⟩
            obtain ⟨ev107, rfl⟩ := he107.open
            unfold lethelaw07_CurveLow_l0 at hR
            refine W.seq_k fun K108 hK108 => ?_
            refine W.seq_k fun K109 hK109 => ?_
            refine W.regionT [(0, true), (1, true), (2, true), (3, true)] (by kernel_rfl) ?_
            refine Plan.move_int rfl rfl ?_
            refine Plan.move_slice rfl rfl ?_
            refine Plan.len FCurveLow.isl59 rfl rfl ?_
            refine Plan.cmpP (a := (((i_104 : Nat) : Int) : Int)) (b := (((x_14.length : Nat) : Int) : Int)) (p := i_104 < x_14.length) rfl rfl rfl rfl icmp_ltN ?_
            refine Plan.nil ?_
            refine hK109 _ _ ?_; clear hK109
            by_cases hc110 : i_104 < x_14.length
            ·
              replace hR := ifT hR hc110
              refine W.condT (congrArg Value.bool (decide_eq_true hc110)) ?_
              refine W.skip ?_
              refine hK108 _ _ ?_; clear hK108
              refine W.seq_k fun K111 hK111 => ?_
              refine W.block ?_
              refine W.regionD FCurveLow.mixed [(0, true), (1, true), (2, true), (3, true), (4, true), (5, true), (6, true), (7, true), (8, true), (9, true)] (by kernel_rfl) ?_
              have h112 := h107.drew
              by_cases hc113 : bad103 = true
              ·
                replace hR := ifT hR hc113
                refine Plan.move_bool (b := true) rfl (congrArg Value.bool hc113) ?_
                refine Plan.move_bool rfl rfl ?_
                refine Plan.passed rfl ?_
                refine Plan.passed rfl ?_
                refine Plan.passed rfl ?_
                refine Plan.passed rfl ?_
                refine Plan.passed rfl ?_
                refine Plan.passed rfl ?_
                refine Plan.pickTb rfl rfl rfl ?_
                refine Plan.assign_bool rfl rfl ?_
                refine Plan.nil ?_
                refine blockR_norm ?_
                refine hK111 _ _ ?_; clear hK111
                refine W.regionT [(0, true), (1, true), (2, true)] (by kernel_rfl) ?_
                refine Plan.move_int rfl rfl ?_
                obtain ⟨hc114, hR⟩ := hR
                refine Plan.addN (a := i_104) (b := 1) rfl rfl rfl (by omega) ?_
                refine Plan.assign_int rfl rfl ?_
                refine Plan.nil ?_
                exact iterR_norm ⟨_, hR, (EnvHas.cons rfl (EnvHas.cons rfl (EnvHas.cons rfl (EnvHas.cons rfl (EnvHas.cons rfl (EnvHas.cons rfl (EnvHas.cons rfl (EnvHas.cons rfl EnvHas.nil)))))))), h112⟩
              ·
                replace hR := ifF hR hc113
                refine Plan.move_bool (b := false) rfl (congrArg Value.bool (Bool.eq_false_iff.2 hc113)) ?_
                refine Plan.move_bool rfl rfl ?_
                refine Plan.loadA1 h112 0 rfl rfl rfl FCurveLow.agg23 ?_
                refine Plan.move_slice rfl rfl ?_
                refine Plan.move_int rfl rfl ?_
                obtain ⟨hc115, hR⟩ := hR
                refine Plan.idxLVS (D := D23) (j := i_104) h112 (LO.lvf D23_flat hf20_0 2 rfl) FCurveLow.sl59 rfl rfl rfl hc115 ?_
                refine Plan.loadLV (D := D23) (X := x_14) (j := i_104) (sz := 32) h112 (fun _ => 0#8) (LO.lvf D23_flat hf20_0 2 rfl) rfl rfl hc115 rfl FCurveLow.agg23 fun b116 r116 hs116 hr116 => ?_
                by_cases hc117 : (eqB 32 (upd m51 31 ((m51 31) &&& (127#8))) (x_14.getD i_104 (fun _ => 0#8))) = true
                ·
                  replace hR := ifT hR hc117
                  refine Plan.eqArrV (b := true) FCurveLow.arrI23 rfl rfl rfl hc117 ?_
                  refine Plan.pickFb rfl rfl rfl ?_
                  refine Plan.assign_bool rfl rfl ?_
                  refine Plan.nil ?_
                  refine blockR_norm ?_
                  refine hK111 _ _ ?_; clear hK111
                  refine W.regionT [(0, true), (1, true), (2, true)] (by kernel_rfl) ?_
                  refine Plan.move_int rfl rfl ?_
                  obtain ⟨hc118, hR⟩ := hR
                  refine Plan.addN (a := i_104) (b := 1) rfl rfl rfl (by omega) ?_
                  refine Plan.assign_int rfl rfl ?_
                  refine Plan.nil ?_
                  exact iterR_norm ⟨_, hR, (EnvHas.cons rfl (EnvHas.cons rfl (EnvHas.cons rfl (EnvHas.cons rfl (EnvHas.cons rfl (EnvHas.cons rfl (EnvHas.cons rfl (EnvHas.cons rfl EnvHas.nil)))))))), h112⟩
                ·
                  replace hR := ifF hR hc117
                  refine Plan.eqArrV (b := false) FCurveLow.arrI23 rfl rfl rfl (Bool.eq_false_iff.2 hc117) ?_
                  refine Plan.pickFb rfl rfl rfl ?_
                  refine Plan.assign_bool rfl rfl ?_
                  refine Plan.nil ?_
                  refine blockR_norm ?_
                  refine hK111 _ _ ?_; clear hK111
                  refine W.regionT [(0, true), (1, true), (2, true)] (by kernel_rfl) ?_
                  refine Plan.move_int rfl rfl ?_
                  obtain ⟨hc119, hR⟩ := hR
                  refine Plan.addN (a := i_104) (b := 1) rfl rfl rfl (by omega) ?_
                  refine Plan.assign_int rfl rfl ?_
                  refine Plan.nil ?_
                  exact iterR_norm ⟨_, hR, (EnvHas.cons rfl (EnvHas.cons rfl (EnvHas.cons rfl (EnvHas.cons rfl (EnvHas.cons rfl (EnvHas.cons rfl (EnvHas.cons rfl (EnvHas.cons rfl EnvHas.nil)))))))), h112⟩
            ·
              replace hR := ifF hR hc110
              refine W.condF (congrArg Value.bool (decide_eq_false hc110)) ?_
              refine W.exit (thenR_exit (iterR_exit (blockR_here ?_)))
              have h120 := St.pickT (C := [_, _, _, _, _]) h107 [1, 3, 4] (by decide)
              simp only [pick, List.filterMap_cons, List.filterMap_nil, List.getElem?_cons_zero, List.getElem?_cons_succ, List.cons_append, List.nil_append] at h120
              exact ⟨bad103, (hx106 _ hR).symm, (EnvHas.cons rfl (EnvHas.cons rfl (EnvHas.cons rfl (EnvHas.cons rfl (EnvHas.cons rfl EnvHas.nil))))), h120⟩
          ·
            rintro ev121 wl121 ⟨y_bad105, hy121, he121, h121⟩
            obtain ⟨ev121, rfl⟩ := he121.open
            subst hy121
            replace hR := hR0106
            refine hK78 _ _ ?_; clear hK78
            refine W.seq_k fun K122 hK122 => ?_
            refine W.regionT [(0, false), (1, true)] (by kernel_rfl) ?_
            obtain ⟨x_124, hr123, hR⟩ := hR
            refine Plan.call (vs := []) rfl FCurveLow.call23 rfl (lethelaw07_fixed_ok (iG0 := iG0 + 3) hG0 hr123 h121) ?_
            rintro _ w125 ⟨rfl, h125⟩
            refine ⟨_, rfl, .inl ⟨PIn.keep PIn.nil h125, ?_⟩⟩
            refine Plan.assign_bool rfl rfl ?_
            refine Plan.nil ?_
            refine hK122 _ _ ?_; clear hK122
            refine W.seq_k fun K126 hK126 => ?_
            refine W.seq_k fun K127 hK127 => ?_
            refine W.regionT [(0, true)] (by kernel_rfl) ?_
            refine Plan.move_bool rfl rfl ?_
            refine Plan.nil ?_
            refine hK127 _ _ ?_; clear hK127
            by_cases hc128 : bad105 = true
            ·
              replace hR := ifT hR hc128
              refine W.condT (congrArg Value.bool hc128) ?_
              refine W.seq_k fun K129 hK129 => ?_
              refine W.regionT [(0, true), (1, true), (2, true), (3, true), (4, true), (5, true), (6, true), (7, true), (8, true), (9, true), (10, true)] (by kernel_rfl) ?_
              by_cases hc130 : x_124 = true
              ·
                replace hR := ifT hR hc130
                refine Plan.move_bool (b := true) rfl (congrArg Value.bool hc130) ?_
                refine Plan.move_bool rfl rfl ?_
                refine Plan.move_int rfl rfl ?_
                by_cases hc131 : x_60 = 70
                ·
                  replace hR := ifT hR hc131
                  refine Plan.cmpV (a := (((x_60 : Nat) : Int) : Int)) (b := (70 : Int)) (p := x_60 = 70) (v := true) rfl rfl rfl rfl icmp_eqN (decide_eq_true hc131) ?_
                  refine Plan.pickTb rfl rfl rfl ?_
                  refine Plan.move_bool rfl rfl ?_
                  refine Plan.loadA1 h125 0 rfl rfl rfl FCurveLow.agg23 ?_
                  refine Plan.buildZ FCurveLow.row23 FCurveLow.z23 rfl ?_
                  refine Plan.eqArrV (b := (eqB 32 x_59 (fun _ => 0#8))) FCurveLow.arrI23 rfl rfl rfl rfl ?_
                  refine Plan.pickTb rfl rfl rfl ?_
                  refine Plan.assign_bool rfl rfl ?_
                  refine Plan.nil ?_
                  refine hK129 _ _ ?_; clear hK129
                  refine W.ret (thenR_ret (finR_ret ?_))
                  have h132 := St.pickT (C := [_, _, _]) h125 [] (by decide)
                  simp only [pick, List.filterMap_cons, List.filterMap_nil, List.getElem?_cons_zero, List.getElem?_cons_succ, List.cons_append, List.nil_append] at h132
                  subst r
                  refine RetOk.mk (.tmp_bool rfl .nil) ?_
                  exact ⟨rfl, h132⟩
                ·
                  replace hR := ifF hR hc131
                  refine Plan.cmpV (a := (((x_60 : Nat) : Int) : Int)) (b := (70 : Int)) (p := x_60 = 70) (v := false) rfl rfl rfl rfl icmp_eqN (decide_eq_false hc131) ?_
                  refine Plan.pickTb rfl rfl rfl ?_
                  refine Plan.move_bool rfl rfl ?_
                  refine Plan.passed rfl ?_
                  refine Plan.passed rfl ?_
                  refine Plan.passed rfl ?_
                  refine Plan.pickFb rfl rfl rfl ?_
                  refine Plan.assign_bool rfl rfl ?_
                  refine Plan.nil ?_
                  refine hK129 _ _ ?_; clear hK129
                  refine W.ret (thenR_ret (finR_ret ?_))
                  have h133 := St.pickT (C := [_, _, _]) h125 [] (by decide)
                  simp only [pick, List.filterMap_cons, List.filterMap_nil, List.getElem?_cons_zero, List.getElem?_cons_succ, List.cons_append, List.nil_append] at h133
                  subst r
                  refine RetOk.mk (.tmp_bool rfl .nil) ?_
                  exact ⟨rfl, h133⟩
              ·
                replace hR := ifF hR hc130
                refine Plan.move_bool (b := false) rfl (congrArg Value.bool (Bool.eq_false_iff.2 hc130)) ?_
                refine Plan.move_bool rfl rfl ?_
                refine Plan.passed rfl ?_
                refine Plan.passed rfl ?_
                refine Plan.pickFb rfl rfl rfl ?_
                refine Plan.move_bool rfl rfl ?_
                refine Plan.passed rfl ?_
                refine Plan.passed rfl ?_
                refine Plan.passed rfl ?_
                refine Plan.pickFb rfl rfl rfl ?_
                refine Plan.assign_bool rfl rfl ?_
                refine Plan.nil ?_
                refine hK129 _ _ ?_; clear hK129
                refine W.ret (thenR_ret (finR_ret ?_))
                have h134 := St.pickT (C := [_, _, _]) h125 [] (by decide)
                simp only [pick, List.filterMap_cons, List.filterMap_nil, List.getElem?_cons_zero, List.getElem?_cons_succ, List.cons_append, List.nil_append] at h134
                subst r
                refine RetOk.mk (.tmp_bool rfl .nil) ?_
                exact ⟨rfl, h134⟩
            ·
              replace hR := ifF hR hc128
              refine W.condF (congrArg Value.bool (Bool.eq_false_iff.2 hc128)) ?_
              refine W.skip ?_
              refine hK126 _ _ ?_; clear hK126
              refine W.seq_k fun K135 hK135 => ?_
              refine W.regionD FCurveLow.mixed [(0, true), (1, true), (2, true), (3, true), (4, true), (5, true), (6, true), (7, true), (8, true), (9, false), (10, true), (11, true), (12, true), (13, true), (14, true), (15, true), (16, true), (17, true)] (by kernel_rfl) ?_
              have h136 := h125.drew
              by_cases hc137 : x_124 = true
              ·
                replace hR := ifT hR hc137
                refine Plan.move_bool (b := true) rfl (congrArg Value.bool hc137) ?_
                refine Plan.move_bool rfl rfl ?_
                refine Plan.move_int rfl rfl ?_
                by_cases hc138 : x_60 = 0
                ·
                  replace hR := ifT hR hc138
                  refine Plan.cmpV (a := (((x_60 : Nat) : Int) : Int)) (b := (0 : Int)) (p := x_60 = 0) (v := true) rfl rfl rfl rfl icmp_eqN (decide_eq_true hc138) ?_
                  refine Plan.pickTb rfl rfl rfl ?_
                  refine Plan.move_bool rfl rfl ?_
                  refine Plan.loadA1 h136 0 rfl rfl rfl FCurveLow.agg23 ?_
                  refine Plan.loadA1 h136 1 rfl rfl rfl FCurveLow.agg23 ?_
                  refine Plan.loadA1 h136 2 rfl rfl rfl FCurveLow.agg23 ?_
                  obtain ⟨x_140, hr139, hR⟩ := hR
                  refine Plan.call (vs := [AG [(32, fun q => VU .u8 (cK1 q))], AG [(32, fun q => VU .u8 (m51 q))]]) rfl FCurveLow.call24 rfl (curve_Times_ok (iG0 := iG0 + 3) hG0 hr139 h136) ?_
                  rintro _ w141 ⟨rfl, h141⟩
                  refine ⟨_, rfl, .inl ⟨PIn.keep (PIn.cons 2 rfl (PIn.cons 1 rfl (PIn.cons 0 rfl PIn.nil))) h141, ?_⟩⟩
                  by_cases hc142 : (eqB 32 x_59 x_140) = true
                  ·
                    replace hR := ifT hR hc142
                    refine Plan.eqArrV (b := true) FCurveLow.arrI23 rfl rfl rfl hc142 ?_
                    refine Plan.pickTb rfl rfl rfl ?_
                    refine Plan.move_bool rfl rfl ?_
                    refine Plan.loadA1 h141 0 rfl rfl rfl FCurveLow.agg23 ?_
                    refine Plan.buildZ FCurveLow.row23 FCurveLow.z23 rfl ?_
                    refine Plan.neArrV (b := (eqB 32 x_59 (fun _ => 0#8))) FCurveLow.arrI23 rfl rfl rfl rfl ?_
                    refine Plan.pickTb rfl rfl rfl ?_
                    refine Plan.assign_bool rfl rfl ?_
                    refine Plan.nil ?_
                    refine hK135 _ _ ?_; clear hK135
                    refine W.ret (finR_ret ?_)
                    have h143 := St.pickT (C := [_, _, _]) h141 [] (by decide)
                    simp only [pick, List.filterMap_cons, List.filterMap_nil, List.getElem?_cons_zero, List.getElem?_cons_succ, List.cons_append, List.nil_append] at h143
                    subst r
                    refine RetOk.mk (.tmp_bool rfl .nil) ?_
                    exact ⟨rfl, h143⟩
                  ·
                    replace hR := ifF hR hc142
                    refine Plan.eqArrV (b := false) FCurveLow.arrI23 rfl rfl rfl (Bool.eq_false_iff.2 hc142) ?_
                    refine Plan.pickTb rfl rfl rfl ?_
                    refine Plan.move_bool rfl rfl ?_
                    refine Plan.passed rfl ?_
                    refine Plan.passed rfl ?_
                    refine Plan.passed rfl ?_
                    refine Plan.pickFb rfl rfl rfl ?_
                    refine Plan.assign_bool rfl rfl ?_
                    refine Plan.nil ?_
                    refine hK135 _ _ ?_; clear hK135
                    refine W.ret (finR_ret ?_)
                    have h144 := St.pickT (C := [_, _, _]) h141 [] (by decide)
                    simp only [pick, List.filterMap_cons, List.filterMap_nil, List.getElem?_cons_zero, List.getElem?_cons_succ, List.cons_append, List.nil_append] at h144
                    subst r
                    refine RetOk.mk (.tmp_bool rfl .nil) ?_
                    exact ⟨rfl, h144⟩
                ·
                  replace hR := ifF hR hc138
                  refine Plan.cmpV (a := (((x_60 : Nat) : Int) : Int)) (b := (0 : Int)) (p := x_60 = 0) (v := false) rfl rfl rfl rfl icmp_eqN (decide_eq_false hc138) ?_
                  refine Plan.pickTb rfl rfl rfl ?_
                  refine Plan.move_bool rfl rfl ?_
                  refine Plan.passed rfl ?_
                  refine Plan.passed rfl ?_
                  refine Plan.passed rfl ?_
                  refine Plan.passed rfl ?_
                  refine Plan.passed rfl ?_
                  refine Plan.pickFb rfl rfl rfl ?_
                  refine Plan.move_bool rfl rfl ?_
                  refine Plan.passed rfl ?_
                  refine Plan.passed rfl ?_
                  refine Plan.passed rfl ?_
                  refine Plan.pickFb rfl rfl rfl ?_
                  refine Plan.assign_bool rfl rfl ?_
                  refine Plan.nil ?_
                  refine hK135 _ _ ?_; clear hK135
                  refine W.ret (finR_ret ?_)
                  have h145 := St.pickT (C := [_, _, _]) h136 [] (by decide)
                  simp only [pick, List.filterMap_cons, List.filterMap_nil, List.getElem?_cons_zero, List.getElem?_cons_succ, List.cons_append, List.nil_append] at h145
                  subst r
                  refine RetOk.mk (.tmp_bool rfl .nil) ?_
                  exact ⟨rfl, h145⟩
              ·
                replace hR := ifF hR hc137
                refine Plan.move_bool (b := false) rfl (congrArg Value.bool (Bool.eq_false_iff.2 hc137)) ?_
                refine Plan.move_bool rfl rfl ?_
                refine Plan.passed rfl ?_
                refine Plan.passed rfl ?_
                refine Plan.pickFb rfl rfl rfl ?_
                refine Plan.move_bool rfl rfl ?_
                refine Plan.passed rfl ?_
                refine Plan.passed rfl ?_
                refine Plan.passed rfl ?_
                refine Plan.passed rfl ?_
                refine Plan.passed rfl ?_
                refine Plan.pickFb rfl rfl rfl ?_
                refine Plan.move_bool rfl rfl ?_
                refine Plan.passed rfl ?_
                refine Plan.passed rfl ?_
                refine Plan.passed rfl ?_
                refine Plan.pickFb rfl rfl rfl ?_
                refine Plan.assign_bool rfl rfl ?_
                refine Plan.nil ?_
                refine hK135 _ _ ?_; clear hK135
                refine W.ret (finR_ret ?_)
                have h146 := St.pickT (C := [_, _, _]) h136 [] (by decide)
                simp only [pick, List.filterMap_cons, List.filterMap_nil, List.getElem?_cons_zero, List.getElem?_cons_succ, List.cons_append, List.nil_append] at h146
                subst r
                refine RetOk.mk (.tmp_bool rfl .nil) ?_
                exact ⟨rfl, h146⟩

end Go.Proofs.YtjblfkmmbpcpaaaDoor
