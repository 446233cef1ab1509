/-
  WALKS of the package's functions, printed by this session's own program (auto.py).
-/
import Derived.Test.YtjclppnbbpnfnaaDoorProg
import Derived.Test.YtjclppnbbpnfnaaDoorEb
import Derived.Test.YtjclppnbbpnfnaaDoorRAgreePoints
import Derived.Test.YtjclppnbbpnfnaaDoorEls
import Derived.Test.YtjclppnbbpnfnaaDoorWLaw17
namespace Go.Proofs.YtjclppnbbpnfnaaDoor
set_option linter.unusedSimpArgs false
set_option linter.unusedVariables false
set_option linter.unusedSectionVars false
open Go Go.LW
theorem FAgreePoints.z25 : zeroIs Tryd.prog 25 [(32, fun _ => VU .u8 0#8), (32, fun _ => VU .u8 0#8)] := zeroIs_agg (by kernel_rfl)
theorem FAgreePoints.mixed : Tryd.prog.follows .mixedOrders = true := by kernel_rfl
theorem FAgreePoints.agg23 : aggT Tryd.prog 23 32 = true := by kernel_rfl
theorem FAgreePoints.z23 : zeroIs Tryd.prog 23 [(32, fun _ => VU .u8 0#8)] := zeroIs_agg (by kernel_rfl)
theorem FAgreePoints.arr23 : arrB Tryd.prog 23 32 1 = true := by kernel_rfl
theorem FAgreePoints.sz5 : szT Tryd.prog 5 1 = true := by kernel_rfl
theorem FAgreePoints.sz23 : szT Tryd.prog 23 32 = true := by kernel_rfl
theorem FAgreePoints.sz25 : szT Tryd.prog 25 64 = true := by kernel_rfl
theorem FAgreePoints.agg25 : aggT Tryd.prog 25 64 = true := by kernel_rfl
theorem FAgreePoints.call11 : callB Tryd.prog 11 = true := by kernel_rfl
theorem FAgreePoints.fld25_1 : fieldB Tryd.prog 25 1 32 = true := by kernel_rfl
theorem FAgreePoints.pl28 : placesB Tryd.prog 28 [(0, 32), (32, 1), (33, 32)] = true := by kernel_rfl
theorem FAgreePoints.z28 : zeroIs Tryd.prog 28 [(32, fun _ => VU .u8 0#8), (1, fun _ => VU .u32 0#32), (32, fun _ => VU .u8 0#8)] := zeroIs_agg (by kernel_rfl)
theorem FAgreePoints.z35 : zeroIs Tryd.prog 35 [(32, fun _ => VU .u8 0#8), (16, fun _ => VU .u8 0#8), (64, fun _ => VU .u8 0#8), (32, fun _ => VU .u8 0#8), (32, fun _ => VU .u8 0#8), (1, fun _ => VU .u32 0#32), (1, fun _ => .int .i64 0)] := zeroIs_agg (by kernel_rfl)
theorem FAgreePoints.agg28 : aggT Tryd.prog 28 65 = true := by kernel_rfl
theorem FAgreePoints.z33 : zeroIs Tryd.prog 33 [(32, fun _ => VU .u8 0#8), (32, fun _ => VU .u8 0#8), (1, fun _ => VU .u32 0#32)] := zeroIs_agg (by kernel_rfl)
theorem FAgreePoints.fld28_1 : fieldB Tryd.prog 28 1 32 = true := by kernel_rfl
theorem FAgreePoints.sc26 : scalarT Tryd.prog 26 = true := by kernel_rfl
theorem FAgreePoints.fld28_2 : fieldB Tryd.prog 28 2 33 = true := by kernel_rfl
theorem FAgreePoints.fld28_0 : fieldB Tryd.prog 28 0 0 = true := by kernel_rfl
theorem FAgreePoints.arrI23 : arrIB Tryd.prog 23 32 .u8 = true := by kernel_rfl
theorem FAgreePoints.sc3 : scalarT Tryd.prog 3 = true := by kernel_rfl
theorem FAgreePoints.agg31 : aggT Tryd.prog 31 64 = true := by kernel_rfl
theorem FAgreePoints.sz26 : szT Tryd.prog 26 1 = true := by kernel_rfl
theorem FAgreePoints.agg30 : aggT Tryd.prog 30 16 = true := by kernel_rfl
theorem FAgreePoints.pl33 : placesB Tryd.prog 33 [(0, 32), (32, 32), (64, 1)] = true := by kernel_rfl
theorem FAgreePoints.sz33 : szT Tryd.prog 33 65 = true := by kernel_rfl
theorem FAgreePoints.agg33 : aggT Tryd.prog 33 65 = true := by kernel_rfl
theorem FAgreePoints.pl35 : placesB Tryd.prog 35 [(0, 32), (32, 16), (48, 64), (112, 65), (177, 1)] = true := by kernel_rfl
theorem FAgreePoints.sz35 : szT Tryd.prog 35 178 = true := by kernel_rfl
theorem FAgreePoints.agg35 : aggT Tryd.prog 35 178 = true := by kernel_rfl
theorem FAgreePoints.call7 : callB Tryd.prog 7 = true := by kernel_rfl
theorem FAgreePoints.arrI30 : arrIB Tryd.prog 30 16 .u8 = true := by kernel_rfl
theorem FAgreePoints.arrI31 : arrIB Tryd.prog 31 64 .u8 = true := by kernel_rfl
theorem FAgreePoints.int26 : intT Tryd.prog 26 .u32 = true := by kernel_rfl
theorem FAgreePoints.flds33 : fieldsB Tryd.prog 33 [(23, 0), (23, 32), (26, 64)] = true := by kernel_rfl
theorem FAgreePoints.int3 : intT Tryd.prog 3 .i64 = true := by kernel_rfl
theorem FAgreePoints.flds35 : fieldsB Tryd.prog 35 [(23, 0), (30, 32), (31, 48), (33, 112), (3, 177)] = true := by kernel_rfl
theorem FAgreePoints.eqg35 : Tryd.prog.eqGuardType Tryd.prog.depth 35 = false := by kernel_rfl
theorem FAgreePoints.fld33_2 : fieldB Tryd.prog 33 2 64 = true := by kernel_rfl
theorem FAgreePoints.fld33_0 : fieldB Tryd.prog 33 0 0 = true := by kernel_rfl
theorem FAgreePoints.fld33_1 : fieldB Tryd.prog 33 1 32 = true := by kernel_rfl
theorem FAgreePoints.call12 : callB Tryd.prog 12 = true := by kernel_rfl
theorem FAgreePoints.fld35_4 : fieldB Tryd.prog 35 4 177 = true := by kernel_rfl
theorem FAgreePoints.fld35_0 : fieldB Tryd.prog 35 0 0 = true := by kernel_rfl
theorem FAgreePoints.sz28 : szT Tryd.prog 28 65 = true := by kernel_rfl
theorem FAgreePoints.fa35_0 : fieldAtB Tryd.prog 35 0 0 23 = true := by kernel_rfl

set_option maxRecDepth 8000 in
set_option maxHeartbeats 1000000 in
theorem lethelaw17_AgreePoints_ok {B : Nat} {w0 w : World} {L : List Rg} {iG0 : Nat} (hG0 : L[iG0]? = some ⟨some 0, 0, 5, fun q => VU .u64 (twice5 q), false⟩) {iG1 : Nat} (hG1 : L[iG1]? = some ⟨some 1, 0, 8, fun q => VU .u32 (H256 q), false⟩) {iG3 : Nat} (hG3 : L[iG3]? = some ⟨some 3, 0, 64, fun q => VU .u32 (K256 q), false⟩) {k1 : Nat → BitVec 8} {which2 : Int} {where_3 : Int} {r : Bool} (hR : lethelaw17_AgreePoints k1 which2 where_3 r) (HST : St B w0 (L) w) :
    Calls Tryd.prog 6 #[AG [(32, fun q => VU .u8 (k1 q))], .int .i64 which2, .int .i64 where_3] w fun e w' => e = .returned (.bool r) ∧ St B w0 (L) w' := by
  refine W.enter 99 Tryd.func6 rfl rfl rfl ?_
  unfold lethelaw17_AgreePoints at hR
  refine W.seq_k fun K4 hK4 => ?_
  refine W.regionT [(0, false), (1, true)] (by kernel_rfl) ?_
  refine Plan.boxA HST rfl rfl PIn.nil fun b5 w5 hb5 h5 => ?_
  simp only [rngs, Nat.zero_add, Nat.reduceAdd, List.cons_append, List.nil_append] at h5
  refine Plan.assign_bool rfl rfl ?_
  refine Plan.nil ?_
  refine hK4 _ _ ?_; clear hK4
  refine W.seq_k fun K6 hK6 => ?_
  refine W.regionT [(0, false)] (by kernel_rfl) ?_
  refine Plan.alloc h5 rfl FAgreePoints.z23 PIn.nil fun b7 w7 hb7 h7 => ?_
  simp only [rngs, Nat.zero_add, Nat.reduceAdd, List.cons_append, List.nil_append] at h7
  refine Plan.nil ?_
  refine hK6 _ _ ?_; clear hK6
  refine W.seq_k fun K8 hK8 => ?_
  obtain ⟨m21, hX22, hR022⟩ := hR
  refine W.cutN (fun e w => ∃ y_m21 : Nat → BitVec 8, (m21 = y_m21) ∧ EnvHas e [(2, .int .i64 where_3), (3, .pointer (some ⟨b5, 0, none⟩)), (7, .pointer (some ⟨b7, 0, none⟩))] ∧ St B w0 (⟨some b7, 0, 32, fun q => VU .u8 (y_m21 q), true⟩ :: ⟨some b5, 0, 32, fun q => VU .u8 (k1 q), true⟩ :: L) w) ?_ ?_
  ·
    replace hR := hX22
    refine W.seq_k fun K23 hK23 => ?_
    refine W.regionT [(0, true), (1, true), (2, true), (3, true)] (by kernel_rfl) ?_
    refine Plan.move_int rfl rfl ?_
    have hb24 := tmod_bd which2 (c := 4) (by decide)
    refine Plan.remI (a := which2) (b := 4) rfl rfl rfl (by omega) ?_
    refine Plan.addI (a := (which2.tmod 4)) (b := 4) rfl rfl rfl (by omega) ?_
    have hb25 := tmod_bd ((which2.tmod 4) + 4) (c := 4) (by decide)
    refine Plan.remI (a := ((which2.tmod 4) + 4)) (b := 4) rfl rfl rfl (by omega) ?_
    refine Plan.nil ?_
    refine hK23 _ _ ?_; clear hK23
    refine W.block ?_
    refine W.seq_k fun K26 hK26 => ?_
    refine W.regionT [(0, true), (1, true)] (by kernel_rfl) ?_
    refine Plan.cmpP (a := ((((which2.tmod 4) + 4).tmod 4) : Int)) (b := (1 : Int)) (p := (((which2.tmod 4) + 4).tmod 4) = 1) rfl rfl rfl rfl icmp_eq ?_
    refine Plan.assign_bool rfl rfl ?_
    refine Plan.nil ?_
    refine hK26 _ _ ?_; clear hK26
    by_cases hc27 : (((which2.tmod 4) + 4).tmod 4) = 1
    ·
      replace hR := ifT hR hc27
      refine W.condT (congrArg Value.bool (decide_eq_true hc27)) ?_
      refine W.regionT [(0, true), (1, false)] (by kernel_rfl) ?_
      refine Plan.idxArr1 (j := 0) FAgreePoints.arr23 rfl rfl rfl (by omega) ?_
      refine Plan.storeU (j := 0) (X := 1#8) h7 0 rfl rfl rfl rfl (by omega) FAgreePoints.sz5 rfl fun w28 h28 => ?_
      simp only [List.cons_append, List.nil_append, List.set_cons_zero, List.set_cons_succ] at h28
      refine Plan.nil ?_
      refine blockR_norm ?_
      exact ⟨(upd (fun _ => 0#8) 0 (1#8)), hR, (EnvHas.cons rfl (EnvHas.cons rfl (EnvHas.cons rfl EnvHas.nil))), h28⟩
    ·
      replace hR := ifF hR hc27
      refine W.condF (congrArg Value.bool (decide_eq_false hc27)) ?_
      refine W.seq_k fun K29 hK29 => ?_
      refine W.regionT [(0, true), (1, true)] (by kernel_rfl) ?_
      refine Plan.cmpP (a := ((((which2.tmod 4) + 4).tmod 4) : Int)) (b := (2 : Int)) (p := (((which2.tmod 4) + 4).tmod 4) = 2) rfl rfl rfl rfl icmp_eq ?_
      refine Plan.assign_bool rfl rfl ?_
      refine Plan.nil ?_
      refine hK29 _ _ ?_; clear hK29
      by_cases hc30 : (((which2.tmod 4) + 4).tmod 4) = 2
      ·
        replace hR := ifT hR hc30
        refine W.condT (congrArg Value.bool (decide_eq_true hc30)) ?_
        refine W.regionT [(0, true), (1, false)] (by kernel_rfl) ?_
        refine Plan.buildArr (ps := [(32, fun q => VU .u8 ((lit [237#8, 255#8, 255#8, 255#8, 255#8, 255#8, 255#8, 255#8, 255#8, 255#8, 255#8, 255#8, 255#8, 255#8, 255#8, 255#8, 255#8, 255#8, 255#8, 255#8, 255#8, 255#8, 255#8, 255#8, 255#8, 255#8, 255#8, 255#8, 255#8, 255#8, 255#8, 127#8]) q))]) FAgreePoints.arr23 FAgreePoints.z23 rfl rfl (by kernel_rfl) ?_
        refine Plan.storeA (f' := fun q => VU .u8 ((lit [237#8, 255#8, 255#8, 255#8, 255#8, 255#8, 255#8, 255#8, 255#8, 255#8, 255#8, 255#8, 255#8, 255#8, 255#8, 255#8, 255#8, 255#8, 255#8, 255#8, 255#8, 255#8, 255#8, 255#8, 255#8, 255#8, 255#8, 255#8, 255#8, 255#8, 255#8, 127#8]) q)) h7 0 rfl rfl rfl rfl (fun _ _ => rfl) FAgreePoints.sz23 rfl fun w31 h31 => ?_
        simp only [List.cons_append, List.nil_append, List.set_cons_zero, List.set_cons_succ] at h31
        refine Plan.nil ?_
        refine blockR_norm ?_
        exact ⟨(lit [237#8, 255#8, 255#8, 255#8, 255#8, 255#8, 255#8, 255#8, 255#8, 255#8, 255#8, 255#8, 255#8, 255#8, 255#8, 255#8, 255#8, 255#8, 255#8, 255#8, 255#8, 255#8, 255#8, 255#8, 255#8, 255#8, 255#8, 255#8, 255#8, 255#8, 255#8, 127#8]), hR, (EnvHas.cons rfl (EnvHas.cons rfl (EnvHas.cons rfl EnvHas.nil))), h31⟩
      ·
        replace hR := ifF hR hc30
        refine W.condF (congrArg Value.bool (decide_eq_false hc30)) ?_
        refine W.seq_k fun K32 hK32 => ?_
        refine W.regionT [(0, true), (1, true)] (by kernel_rfl) ?_
        refine Plan.cmpP (a := ((((which2.tmod 4) + 4).tmod 4) : Int)) (b := (3 : Int)) (p := (((which2.tmod 4) + 4).tmod 4) = 3) rfl rfl rfl rfl icmp_eq ?_
        refine Plan.assign_bool rfl rfl ?_
        refine Plan.nil ?_
        refine hK32 _ _ ?_; clear hK32
        by_cases hc33 : (((which2.tmod 4) + 4).tmod 4) = 3
        ·
          replace hR := ifT hR hc33
          refine W.condT (congrArg Value.bool (decide_eq_true hc33)) ?_
          refine W.regionT [(0, true), (1, false)] (by kernel_rfl) ?_
          refine Plan.buildArr (ps := [(32, fun q => VU .u8 ((lit [238#8, 255#8, 255#8, 255#8, 255#8, 255#8, 255#8, 255#8, 255#8, 255#8, 255#8, 255#8, 255#8, 255#8, 255#8, 255#8, 255#8, 255#8, 255#8, 255#8, 255#8, 255#8, 255#8, 255#8, 255#8, 255#8, 255#8, 255#8, 255#8, 255#8, 255#8, 127#8]) q))]) FAgreePoints.arr23 FAgreePoints.z23 rfl rfl (by kernel_rfl) ?_
          refine Plan.storeA (f' := fun q => VU .u8 ((lit [238#8, 255#8, 255#8, 255#8, 255#8, 255#8, 255#8, 255#8, 255#8, 255#8, 255#8, 255#8, 255#8, 255#8, 255#8, 255#8, 255#8, 255#8, 255#8, 255#8, 255#8, 255#8, 255#8, 255#8, 255#8, 255#8, 255#8, 255#8, 255#8, 255#8, 255#8, 127#8]) q)) h7 0 rfl rfl rfl rfl (fun _ _ => rfl) FAgreePoints.sz23 rfl fun w34 h34 => ?_
          simp only [List.cons_append, List.nil_append, List.set_cons_zero, List.set_cons_succ] at h34
          refine Plan.nil ?_
          refine blockR_norm ?_
          exact ⟨(lit [238#8, 255#8, 255#8, 255#8, 255#8, 255#8, 255#8, 255#8, 255#8, 255#8, 255#8, 255#8, 255#8, 255#8, 255#8, 255#8, 255#8, 255#8, 255#8, 255#8, 255#8, 255#8, 255#8, 255#8, 255#8, 255#8, 255#8, 255#8, 255#8, 255#8, 255#8, 127#8]), hR, (EnvHas.cons rfl (EnvHas.cons rfl (EnvHas.cons rfl EnvHas.nil))), h34⟩
        ·
          replace hR := ifF hR hc33
          refine W.condF (congrArg Value.bool (decide_eq_false hc33)) ?_
          refine W.skip ?_
          refine blockR_norm ?_
          exact ⟨(fun _ => 0#8), hR, (EnvHas.cons rfl (EnvHas.cons rfl (EnvHas.cons rfl EnvHas.nil))), h7⟩
  ·
    rintro ev35 wl35 ⟨y_m21, hy35_0, he35, h35⟩
    subst hy35_0
    obtain ⟨ev35, rfl⟩ := he35.open
    replace hR := hR022
    refine hK8 _ _ ?_; clear hK8
    refine W.seq_k fun K36 hK36 => ?_
    refine W.regionT [(0, true), (1, false), (2, false), (3, false)] (by kernel_rfl) ?_
    refine Plan.loadA1 h35 1 rfl rfl rfl FAgreePoints.agg23 ?_
    obtain ⟨x_38, x_39, hr37, hR⟩ := hR
    refine Plan.call (vs := [AG [(32, fun q => VU .u8 (k1 q))]]) rfl FAgreePoints.call11 rfl (lethelaw17_pair_ok (iG0 := iG0 + 2) hG0 hr37 h35) ?_
    rintro _ w40 ⟨rfl, h40⟩
    refine ⟨_, rfl, .inr ⟨rfl, ?_⟩⟩
    refine Plan.alloc h40 rfl FAgreePoints.z25 PIn.nil fun b41 w41 hb41 h41 => ?_
    simp only [rngs, Nat.zero_add, Nat.reduceAdd, List.cons_append, List.nil_append] at h41
    refine Plan.storeP (ps := [(32, fun q => VU .u8 (x_38 q)), (32, fun q => VU .u8 (x_39 q))]) h41 rfl rfl rfl (.cons 0 rfl (.cons 1 rfl .nil)) ⟨fun _ _ => rfl, fun _ _ => rfl, trivial⟩ FAgreePoints.sz25 (EffO.keep PIn.nil) fun w42 h42 => ?_
    simp only [List.cons_append, List.nil_append, List.set_cons_zero, List.set_cons_succ] at h42
    refine Plan.nil ?_
    refine hK36 _ _ ?_; clear hK36
    refine W.seq_k fun K43 hK43 => ?_
    refine W.regionT [(0, true), (1, true), (2, true), (3, true), (4, true), (5, false), (6, false)] (by kernel_rfl) ?_
    refine Plan.fieldAddr 32 FAgreePoints.fld25_1 rfl rfl ?_
    refine Plan.loadA1 h42 1 rfl rfl rfl FAgreePoints.agg23 ?_
    refine Plan.fieldAddr 32 FAgreePoints.fld25_1 rfl rfl ?_
    refine Plan.loadA1 h42 1 rfl rfl rfl FAgreePoints.agg23 ?_
    refine Plan.buildP (ps := [(32, fun q => VU .u8 (x_39 q)), (1, fun _ => VU .u32 (1#32)), (32, fun q => VU .u8 (x_39 q))]) FAgreePoints.pl28 (by decide) FAgreePoints.z28 rfl rfl (.agg [] [(32, fun q => VU .u8 ((fun _ => 0#8) q))] [(1, fun _ => VU .u32 (0#32)), (32, fun q => VU .u8 ((fun _ => 0#8) q))] [(32, fun q => VU .u8 (x_39 q))] rfl rfl (.one [(32, fun q => VU .u8 (x_39 q))] [(32, fun q => VU .u8 ((fun _ => 0#8) q))] (fun _ => VU .u32 (0#32)) rfl rfl (.agg [(32, fun q => VU .u8 (x_39 q)), (1, fun _ => VU .u32 (1#32))] [(32, fun q => VU .u8 ((fun _ => 0#8) q))] [] [(32, fun q => VU .u8 (x_39 q))] rfl rfl .nil))) ?_
    refine Plan.alloc h42 rfl FAgreePoints.z28 (PIn.cons 1 rfl (PIn.cons 1 rfl PIn.nil)) fun b44 w44 hb44 h44 => ?_
    simp only [rngs, Nat.zero_add, Nat.reduceAdd, List.cons_append, List.nil_append] at h44
    refine Plan.storeP (ps := [(32, fun q => VU .u8 (x_39 q)), (1, fun _ => VU .u32 (1#32)), (32, fun q => VU .u8 (x_39 q))]) h44 rfl rfl rfl (.cons 0 rfl (.cons 1 rfl (.cons 2 rfl .nil))) ⟨fun _ _ => rfl, fun _ _ => rfl, fun _ _ => rfl, trivial⟩ FAgreePoints.sz28 (EffO.wait rfl) fun w45 h45 => ?_
    simp only [List.cons_append, List.nil_append, List.set_cons_zero, List.set_cons_succ] at h45
    refine Plan.nil ?_
    refine hK43 _ _ ?_; clear hK43
    refine W.seq_k fun K46 hK46 => ?_
    refine W.regionT [(0, true), (1, true), (2, true), (3, true), (4, true), (5, false), (6, false)] (by kernel_rfl) ?_
    refine Plan.fieldAddr 32 FAgreePoints.fld25_1 rfl rfl ?_
    refine Plan.loadA1 h45 4 rfl rfl rfl FAgreePoints.agg23 ?_
    refine Plan.fieldAddr 32 FAgreePoints.fld25_1 rfl rfl ?_
    refine Plan.loadA1 h45 4 rfl rfl rfl FAgreePoints.agg23 ?_
    refine Plan.buildP (ps := [(32, fun q => VU .u8 (x_39 q)), (32, fun q => VU .u8 (x_39 q)), (1, fun _ => VU .u32 (1#32))]) FAgreePoints.pl33 (by decide) FAgreePoints.z33 rfl rfl (.agg [] [(32, fun q => VU .u8 ((fun _ => 0#8) q))] [(32, fun q => VU .u8 ((fun _ => 0#8) q)), (1, fun _ => VU .u32 (0#32))] [(32, fun q => VU .u8 (x_39 q))] rfl rfl (.agg [(32, fun q => VU .u8 (x_39 q))] [(32, fun q => VU .u8 ((fun _ => 0#8) q))] [(1, fun _ => VU .u32 (0#32))] [(32, fun q => VU .u8 (x_39 q))] rfl rfl (.one [(32, fun q => VU .u8 (x_39 q)), (32, fun q => VU .u8 (x_39 q))] [] (fun _ => VU .u32 (0#32)) rfl rfl .nil))) ?_
    refine Plan.alloc h45 rfl FAgreePoints.z33 (PIn.cons 4 rfl (PIn.cons 4 rfl PIn.nil)) fun b47 w47 hb47 h47 => ?_
    simp only [rngs, Nat.zero_add, Nat.reduceAdd, List.cons_append, List.nil_append] at h47
    refine Plan.storeP (ps := [(32, fun q => VU .u8 (x_39 q)), (32, fun q => VU .u8 (x_39 q)), (1, fun _ => VU .u32 (1#32))]) h47 rfl rfl rfl (.cons 0 rfl (.cons 1 rfl (.cons 2 rfl .nil))) ⟨fun _ _ => rfl, fun _ _ => rfl, fun _ _ => rfl, trivial⟩ FAgreePoints.sz33 (EffO.wait rfl) fun w48 h48 => ?_
    simp only [List.cons_append, List.nil_append, List.set_cons_zero, List.set_cons_succ] at h48
    refine Plan.nil ?_
    refine hK46 _ _ ?_; clear hK46
    refine W.seq_k fun K49 hK49 => ?_
    refine W.regionT [(0, true), (1, true), (2, true), (3, false), (4, false), (5, false)] (by kernel_rfl) ?_
    refine Plan.loadA h48 rfl rfl (.cons 6 rfl (.cons 7 rfl .nil)) FAgreePoints.agg25 ?_
    refine Plan.loadA h48 rfl rfl (.cons 6 rfl (.cons 7 rfl .nil)) FAgreePoints.agg25 ?_
    refine Plan.loadA h48 rfl rfl (.cons 3 rfl (.cons 4 rfl (.cons 5 rfl .nil))) FAgreePoints.agg28 ?_
    obtain ⟨x_51, x_52, x_53, x_54, x_55, x_56, x_57, hr50, hR⟩ := hR
    refine Plan.call (vs := [AG [(32, fun q => VU .u8 (x_38 q)), (32, fun q => VU .u8 (x_39 q))], AG [(32, fun q => VU .u8 (x_38 q)), (32, fun q => VU .u8 (x_39 q))], AG [(32, fun q => VU .u8 (x_39 q)), (1, fun _ => VU .u32 (1#32)), (32, fun q => VU .u8 (x_39 q))]]) rfl FAgreePoints.call7 rfl (lethelaw17_start_ok (iG0 := iG0 + 10) hG0 (iG1 := iG1 + 10) hG1 (iG3 := iG3 + 10) hG3 hr50 h48) ?_
    rintro _ w58 ⟨rfl, h58⟩
    refine ⟨_, rfl, .inr ⟨rfl, ?_⟩⟩
    refine Plan.alloc h58 rfl FAgreePoints.z35 PIn.nil fun b59 w59 hb59 h59 => ?_
    simp only [rngs, Nat.zero_add, Nat.reduceAdd, List.cons_append, List.nil_append] at h59
    refine Plan.storeP (ps := [(32, fun q => VU .u8 (x_51 q)), (16, fun q => VU .u8 (x_52 q)), (64, fun q => VU .u8 (x_53 q)), (32, fun q => VU .u8 (x_54 q)), (32, fun q => VU .u8 (x_55 q)), (1, fun _ => VU .u32 x_56), (1, fun _ => VN x_57)]) h59 rfl rfl rfl (.cons 0 rfl (.cons 1 rfl (.cons 2 rfl (.cons 3 rfl (.cons 4 rfl (.cons 5 rfl (.cons 6 rfl .nil))))))) ⟨fun _ _ => rfl, fun _ _ => rfl, fun _ _ => rfl, fun _ _ => rfl, fun _ _ => rfl, fun _ _ => rfl, fun _ _ => rfl, trivial⟩ FAgreePoints.sz35 (EffO.keep PIn.nil) fun w60 h60 => ?_
    simp only [List.cons_append, List.nil_append, List.set_cons_zero, List.set_cons_succ] at h60
    refine Plan.nil ?_
    refine hK49 _ _ ?_; clear hK49
    refine W.seq_k fun K61 hK61 => ?_
    refine W.seq_k fun K77 hK77 => ?_
    refine W.regionD FAgreePoints.mixed [(0, true), (1, true), (2, true), (3, true), (4, true), (5, true), (6, true), (9, true), (10, true), (7, false), (8, true), (11, true), (12, true)] (by kernel_rfl) ?_
    have h78 := h60.drew
    refine Plan.fieldAddr 177 FAgreePoints.fld35_4 rfl rfl ?_
    refine Plan.load0 h78 6 rfl rfl rfl (by omega) FAgreePoints.sc3 ?_
    by_cases hc79 : x_57 ≠ 0
    ·
      replace hR := ifT hR hc79
      refine Plan.cmpV (a := (((x_57 : Nat) : Int) : Int)) (b := (0 : Int)) (p := x_57 ≠ 0) (v := true) rfl rfl rfl rfl icmp_neN (decide_eq_true hc79) ?_
      refine Plan.move_bool rfl rfl ?_
      refine Plan.passed rfl ?_
      refine Plan.passed rfl ?_
      refine Plan.passed rfl ?_
      refine Plan.passed rfl ?_
      refine Plan.passed rfl ?_
      refine Plan.passed rfl ?_
      refine Plan.passed rfl ?_
      refine Plan.passed rfl ?_
      refine Plan.pickTb rfl rfl rfl ?_
      refine Plan.nil ?_
      refine hK77 _ _ ?_; clear hK77
      refine W.condT rfl ?_
      refine W.seq_k fun K80 hK80 => ?_
      refine W.regionT [(0, true)] (by kernel_rfl) ?_
      refine Plan.assign_bool rfl rfl ?_
      refine Plan.nil ?_
      refine hK80 _ _ ?_; clear hK80
      refine W.ret (thenR_ret (finR_ret ?_))
      have h81 := St.pickT (C := [_, _, _, _, _, _, _, _, _, _, _, _, _, _, _, _, _]) h78 [] (by decide)
      simp only [pick, List.filterMap_cons, List.filterMap_nil, List.getElem?_cons_zero, List.getElem?_cons_succ, List.cons_append, List.nil_append] at h81
      subst r
      refine RetOk.mk (.tmp_bool rfl .nil) ?_
      exact ⟨rfl, h81⟩
    ·
      replace hR := ifF hR hc79
      refine Plan.cmpV (a := (((x_57 : Nat) : Int) : Int)) (b := (0 : Int)) (p := x_57 ≠ 0) (v := false) rfl rfl rfl rfl icmp_neN (decide_eq_false hc79) ?_
      refine Plan.move_bool rfl rfl ?_
      refine Plan.loadA h78 rfl rfl (.cons 13 rfl (.cons 14 rfl .nil)) FAgreePoints.agg25 ?_
      refine Plan.loadA h78 rfl rfl (.cons 13 rfl (.cons 14 rfl .nil)) FAgreePoints.agg25 ?_
      refine Plan.loadA h78 rfl rfl (.cons 7 rfl (.cons 8 rfl (.cons 9 rfl .nil))) FAgreePoints.agg33 ?_
      refine Plan.fieldAddr0 FAgreePoints.fld35_0 rfl rfl ?_
      refine Plan.loadA1 h78 0 rfl rfl rfl FAgreePoints.agg23 ?_
      obtain ⟨x_83, x_84, x_85, x_86, x_87, x_88, x_89, hr82, hR⟩ := hR
      refine Plan.call (vs := [AG [(32, fun q => VU .u8 (x_38 q)), (32, fun q => VU .u8 (x_39 q))], AG [(32, fun q => VU .u8 (x_38 q)), (32, fun q => VU .u8 (x_39 q))], AG [(32, fun q => VU .u8 (x_39 q)), (32, fun q => VU .u8 (x_39 q)), (1, fun _ => VU .u32 (1#32))]]) rfl FAgreePoints.call12 rfl (lethelaw17_meet_ok (iG0 := iG0 + 17) hG0 (iG1 := iG1 + 17) hG1 (iG3 := iG3 + 17) hG3 hr82 h78) ?_
      rintro _ w90 ⟨rfl, h90⟩
      refine ⟨_, rfl, .inl ⟨PIn.keep (PIn.cons 0 rfl (PIn.parts (.cons 7 rfl (.cons 8 rfl (.cons 9 rfl .nil))) (PIn.parts (.cons 13 rfl (.cons 14 rfl .nil)) (PIn.parts (.cons 13 rfl (.cons 14 rfl .nil)) (PIn.cons 6 rfl PIn.nil))))) h90, ?_⟩⟩
      refine Plan.fieldA (ps1 := []) (ps2 := [(32, fun q => VU .u8 (x_83 q))]) (ps3 := [(16, fun q => VU .u8 (x_84 q)), (64, fun q => VU .u8 (x_85 q)), (32, fun q => VU .u8 (x_86 q)), (32, fun q => VU .u8 (x_87 q)), (1, fun _ => VU .u32 x_88), (1, fun _ => VN x_89)]) FAgreePoints.fa35_0 FAgreePoints.agg23 rfl rfl rfl ?_
      refine Plan.neArrV (b := (eqB 32 x_83 x_51)) FAgreePoints.arrI23 rfl rfl rfl rfl ?_
      refine Plan.pickFb rfl rfl rfl ?_
      refine Plan.nil ?_
      refine hK77 _ _ ?_; clear hK77
      by_cases hc91 : (eqB 32 x_83 x_51) = true
      ·
        replace hR := ifT hR hc91
        refine W.condF (congrArg Value.bool (congrArg Bool.not hc91)) ?_
        refine W.skip ?_
        refine hK61 _ _ ?_; clear hK61
        refine W.seq_k fun K92 hK92 => ?_
        obtain ⟨m101, m102, m103, m104, hX105, hR0105⟩ := hR
        refine W.cutN (fun e w => ∃ y_m101 : Nat → BitVec 8, ∃ y_m102 : Nat → BitVec 8, ∃ y_m103 : Nat → BitVec 8, ∃ y_m104 : Nat → BitVec 8, (m101 = y_m101 ∧ m102 = y_m102 ∧ m103 = y_m103 ∧ m104 = y_m104) ∧ EnvHas e [(8, .pointer (some ⟨b41, 0, none⟩)), (9, .pointer (some ⟨b44, 0, none⟩)), (10, .pointer (some ⟨b47, 0, none⟩))] ∧ St B w0 (⟨some b47, 0, 32, fun q => VU .u8 (y_m101 q), true⟩ :: ⟨some b47, 32, 32, fun q => VU .u8 (y_m102 q), true⟩ :: ⟨some b47, 64, 1, fun _ => VU .u32 (1#32), true⟩ :: ⟨some b44, 0, 32, fun q => VU .u8 (y_m103 q), true⟩ :: ⟨some b44, 32, 1, fun _ => VU .u32 (1#32), true⟩ :: ⟨some b44, 33, 32, fun q => VU .u8 (y_m104 q), true⟩ :: ⟨some b41, 0, 32, fun q => VU .u8 (x_38 q), true⟩ :: ⟨some b41, 32, 32, fun q => VU .u8 (x_39 q), true⟩ :: L) w) ?_ ?_
        ·
          replace hR := hX105
          refine W.seq_k fun K106 hK106 => ?_
          refine W.regionT [(0, true), (1, true), (2, true)] (by kernel_rfl) ?_
          refine Plan.move_int rfl rfl ?_
          refine Plan.maskI (a := where_3) 1 (by decide) rfl rfl rfl ?_
          refine Plan.cmpP (a := ((where_3 % 2) : Int)) (b := (0 : Int)) (p := (where_3 % 2) = 0) rfl rfl rfl rfl icmp_eq ?_
          refine Plan.nil ?_
          refine hK106 _ _ ?_; clear hK106
          by_cases hc107 : (where_3 % 2) = 0
          ·
            replace hR := ifT hR hc107
            refine W.condT (congrArg Value.bool (decide_eq_true hc107)) ?_
            refine W.seq_k fun K108 hK108 => ?_
            refine W.regionT [(0, true), (1, true), (2, false)] (by kernel_rfl) ?_
            refine Plan.loadA1 h90 15 rfl rfl rfl FAgreePoints.agg23 ?_
            refine Plan.fieldAddr0 FAgreePoints.fld28_0 rfl rfl ?_
            refine Plan.storeA (f' := fun q => VU .u8 (m21 q)) h90 10 rfl rfl rfl rfl (fun _ _ => rfl) FAgreePoints.sz23 rfl fun w109 h109 => ?_
            simp only [List.cons_append, List.nil_append, List.set_cons_zero, List.set_cons_succ] at h109
            refine Plan.nil ?_
            refine hK108 _ _ ?_; clear hK108
            refine W.regionT [(0, true), (1, true), (2, false)] (by kernel_rfl) ?_
            refine Plan.loadA1 h109 15 rfl rfl rfl FAgreePoints.agg23 ?_
            refine Plan.fieldAddr0 FAgreePoints.fld33_0 rfl rfl ?_
            refine Plan.storeA (f' := fun q => VU .u8 (m21 q)) h109 7 rfl rfl rfl rfl (fun _ _ => rfl) FAgreePoints.sz23 rfl fun w110 h110 => ?_
            simp only [List.cons_append, List.nil_append, List.set_cons_zero, List.set_cons_succ] at h110
            refine Plan.nil ?_
            have h111 := St.pickT (C := [_, _, _, _, _, _, _, _, _, _, _, _, _, _, _, _, _]) h110 [7, 8, 9, 10, 11, 12, 13, 14] (by decide)
            simp only [pick, List.filterMap_cons, List.filterMap_nil, List.getElem?_cons_zero, List.getElem?_cons_succ, List.cons_append, List.nil_append] at h111
            exact ⟨m21, x_39, m21, x_39, hR, (EnvHas.cons rfl (EnvHas.cons rfl (EnvHas.cons rfl EnvHas.nil))), h111⟩
          ·
            replace hR := ifF hR hc107
            refine W.condF (congrArg Value.bool (decide_eq_false hc107)) ?_
            refine W.seq_k fun K112 hK112 => ?_
            refine W.regionT [(0, true), (1, true), (2, false)] (by kernel_rfl) ?_
            refine Plan.loadA1 h90 15 rfl rfl rfl FAgreePoints.agg23 ?_
            refine Plan.fieldAddr 33 FAgreePoints.fld28_2 rfl rfl ?_
            refine Plan.storeA (f' := fun q => VU .u8 (m21 q)) h90 12 rfl rfl rfl rfl (fun _ _ => rfl) FAgreePoints.sz23 rfl fun w113 h113 => ?_
            simp only [List.cons_append, List.nil_append, List.set_cons_zero, List.set_cons_succ] at h113
            refine Plan.nil ?_
            refine hK112 _ _ ?_; clear hK112
            refine W.regionT [(0, true), (1, true), (2, false)] (by kernel_rfl) ?_
            refine Plan.loadA1 h113 15 rfl rfl rfl FAgreePoints.agg23 ?_
            refine Plan.fieldAddr 32 FAgreePoints.fld33_1 rfl rfl ?_
            refine Plan.storeA (f' := fun q => VU .u8 (m21 q)) h113 8 rfl rfl rfl rfl (fun _ _ => rfl) FAgreePoints.sz23 rfl fun w114 h114 => ?_
            simp only [List.cons_append, List.nil_append, List.set_cons_zero, List.set_cons_succ] at h114
            refine Plan.nil ?_
            have h115 := St.pickT (C := [_, _, _, _, _, _, _, _, _, _, _, _, _, _, _, _, _]) h114 [7, 8, 9, 10, 11, 12, 13, 14] (by decide)
            simp only [pick, List.filterMap_cons, List.filterMap_nil, List.getElem?_cons_zero, List.getElem?_cons_succ, List.cons_append, List.nil_append] at h115
            exact ⟨x_39, m21, x_39, m21, hR, (EnvHas.cons rfl (EnvHas.cons rfl (EnvHas.cons rfl EnvHas.nil))), h115⟩
        ·
          rintro ev116 wl116 ⟨y_m101, y_m102, y_m103, y_m104, ⟨hy116_0, hy116_1, hy116_2, hy116_3⟩, he116, h116⟩
          subst hy116_0
          subst hy116_1
          subst hy116_2
          subst hy116_3
          obtain ⟨ev116, rfl⟩ := he116.open
          replace hR := hR0105
          refine hK92 _ _ ?_; clear hK92
          refine W.seq_k fun K117 hK117 => ?_
          refine W.regionT [(0, true), (1, false), (2, false)] (by kernel_rfl) ?_
          refine Plan.buildP (ps := [(32, fun q => VU .u8 ((fun _ => 0#8) q)), (16, fun q => VU .u8 ((fun _ => 0#8) q)), (64, fun q => VU .u8 ((fun _ => 0#8) q)), (32, fun q => VU .u8 ((fun _ => 0#8) q)), (32, fun q => VU .u8 ((fun _ => 0#8) q)), (1, fun _ => VU .u32 (0#32)), (1, fun _ => VN 70)]) FAgreePoints.pl35 (by decide) FAgreePoints.z35 rfl rfl (.one [(32, fun q => VU .u8 ((fun _ => 0#8) q)), (16, fun q => VU .u8 ((fun _ => 0#8) q)), (64, fun q => VU .u8 ((fun _ => 0#8) q)), (32, fun q => VU .u8 ((fun _ => 0#8) q)), (32, fun q => VU .u8 ((fun _ => 0#8) q)), (1, fun _ => VU .u32 (0#32))] [] (fun _ => VN 0) rfl rfl .nil) ?_
          refine Plan.alloc h116 rfl FAgreePoints.z35 PIn.nil fun b118 w118 hb118 h118 => ?_
          simp only [rngs, Nat.zero_add, Nat.reduceAdd, List.cons_append, List.nil_append] at h118
          refine Plan.storeP (ps := [(32, fun q => VU .u8 ((fun _ => 0#8) q)), (16, fun q => VU .u8 ((fun _ => 0#8) q)), (64, fun q => VU .u8 ((fun _ => 0#8) q)), (32, fun q => VU .u8 ((fun _ => 0#8) q)), (32, fun q => VU .u8 ((fun _ => 0#8) q)), (1, fun _ => VU .u32 (0#32)), (1, fun _ => VN 70)]) h118 rfl rfl rfl (.cons 0 rfl (.cons 1 rfl (.cons 2 rfl (.cons 3 rfl (.cons 4 rfl (.cons 5 rfl (.cons 6 rfl .nil))))))) ⟨fun _ _ => rfl, fun _ _ => rfl, fun _ _ => rfl, fun _ _ => rfl, fun _ _ => rfl, fun _ _ => rfl, fun _ _ => rfl, trivial⟩ FAgreePoints.sz35 (EffO.keep PIn.nil) fun w119 h119 => ?_
          simp only [List.cons_append, List.nil_append, List.set_cons_zero, List.set_cons_succ] at h119
          refine Plan.nil ?_
          refine hK117 _ _ ?_; clear hK117
          refine W.seq_k fun K120 hK120 => ?_
          refine W.seq_k fun K145 hK145 => ?_
          refine W.regionD FAgreePoints.mixed [(0, true), (1, true), (2, true), (4, true), (3, false), (5, true), (6, true), (7, true), (8, true), (9, true), (11, true), (10, false), (12, true), (13, true)] (by kernel_rfl) ?_
          have h146 := h119.drew
          refine Plan.loadA h146 rfl rfl (.cons 13 rfl (.cons 14 rfl .nil)) FAgreePoints.agg25 ?_
          refine Plan.loadA h146 rfl rfl (.cons 13 rfl (.cons 14 rfl .nil)) FAgreePoints.agg25 ?_
          refine Plan.loadA h146 rfl rfl (.cons 10 rfl (.cons 11 rfl (.cons 12 rfl .nil))) FAgreePoints.agg28 ?_
          refine Plan.loadA h146 rfl rfl (.cons 0 rfl (.cons 1 rfl (.cons 2 rfl (.cons 3 rfl (.cons 4 rfl (.cons 5 rfl (.cons 6 rfl .nil))))))) FAgreePoints.agg35 ?_
          obtain ⟨x_148, x_149, x_150, x_151, x_152, x_153, x_154, hr147, hR⟩ := hR
          refine Plan.call (vs := [AG [(32, fun q => VU .u8 (x_38 q)), (32, fun q => VU .u8 (x_39 q))], AG [(32, fun q => VU .u8 (x_38 q)), (32, fun q => VU .u8 (x_39 q))], AG [(32, fun q => VU .u8 (m103 q)), (1, fun _ => VU .u32 (1#32)), (32, fun q => VU .u8 (m104 q))]]) rfl FAgreePoints.call7 rfl (lethelaw17_start_ok (iG0 := iG0 + 15) hG0 (iG1 := iG1 + 15) hG1 (iG3 := iG3 + 15) hG3 hr147 h146) ?_
          rintro _ w155 ⟨rfl, h155⟩
          refine ⟨_, rfl, .inl ⟨PIn.keep (PIn.parts (.cons 0 rfl (.cons 1 rfl (.cons 2 rfl (.cons 3 rfl (.cons 4 rfl (.cons 5 rfl (.cons 6 rfl .nil))))))) (PIn.parts (.cons 10 rfl (.cons 11 rfl (.cons 12 rfl .nil))) (PIn.parts (.cons 13 rfl (.cons 14 rfl .nil)) (PIn.parts (.cons 13 rfl (.cons 14 rfl .nil)) PIn.nil)))) h155, ?_⟩⟩
          by_cases hc156 : ((eqB 32 x_148 (fun _ => 0#8)) && ((eqB 16 x_149 (fun _ => 0#8)) && ((eqB 64 x_150 (fun _ => 0#8)) && (((eqB 32 x_151 (fun _ => 0#8)) && ((eqB 32 x_152 (fun _ => 0#8)) && ((decide (x_153 = 0#32)) && true))) && ((decide ((x_154 : Nat) = 70)) && true))))) = true
          ·
            replace hR := ifT hR hc156
            refine Plan.neStrV' (c := true) FAgreePoints.eqg35 rfl rfl rfl (EqV.struct (d := 9999) (l := [(23, 0), (30, 32), (31, 48), (33, 112), (3, 177)]) FAgreePoints.flds35 (.agg [] [(32, fun q => VU .u8 (x_148 q))] [(16, fun q => VU .u8 (x_149 q)), (64, fun q => VU .u8 (x_150 q)), (32, fun q => VU .u8 (x_151 q)), (32, fun q => VU .u8 (x_152 q)), (1, fun _ => VU .u32 x_153), (1, fun _ => VN x_154)] [] [(32, fun q => VU .u8 ((fun _ => 0#8) q))] [(16, fun q => VU .u8 ((fun _ => 0#8) q)), (64, fun q => VU .u8 ((fun _ => 0#8) q)), (32, fun q => VU .u8 ((fun _ => 0#8) q)), (32, fun q => VU .u8 ((fun _ => 0#8) q)), (1, fun _ => VU .u32 (0#32)), (1, fun _ => VN 70)] rfl rfl rfl rfl FAgreePoints.agg23 FAgreePoints.agg23 (EqV.arr (d := 9997) (F := x_148) (G := (fun _ => 0#8)) FAgreePoints.arrI23) (.agg [(32, fun q => VU .u8 (x_148 q))] [(16, fun q => VU .u8 (x_149 q))] [(64, fun q => VU .u8 (x_150 q)), (32, fun q => VU .u8 (x_151 q)), (32, fun q => VU .u8 (x_152 q)), (1, fun _ => VU .u32 x_153), (1, fun _ => VN x_154)] [(32, fun q => VU .u8 ((fun _ => 0#8) q))] [(16, fun q => VU .u8 ((fun _ => 0#8) q))] [(64, fun q => VU .u8 ((fun _ => 0#8) q)), (32, fun q => VU .u8 ((fun _ => 0#8) q)), (32, fun q => VU .u8 ((fun _ => 0#8) q)), (1, fun _ => VU .u32 (0#32)), (1, fun _ => VN 70)] rfl rfl rfl rfl FAgreePoints.agg30 FAgreePoints.agg30 (EqV.arr (d := 9997) (F := x_149) (G := (fun _ => 0#8)) FAgreePoints.arrI30) (.agg [(32, fun q => VU .u8 (x_148 q)), (16, fun q => VU .u8 (x_149 q))] [(64, fun q => VU .u8 (x_150 q))] [(32, fun q => VU .u8 (x_151 q)), (32, fun q => VU .u8 (x_152 q)), (1, fun _ => VU .u32 x_153), (1, fun _ => VN x_154)] [(32, fun q => VU .u8 ((fun _ => 0#8) q)), (16, fun q => VU .u8 ((fun _ => 0#8) q))] [(64, fun q => VU .u8 ((fun _ => 0#8) q))] [(32, fun q => VU .u8 ((fun _ => 0#8) q)), (32, fun q => VU .u8 ((fun _ => 0#8) q)), (1, fun _ => VU .u32 (0#32)), (1, fun _ => VN 70)] rfl rfl rfl rfl FAgreePoints.agg31 FAgreePoints.agg31 (EqV.arr (d := 9997) (F := x_150) (G := (fun _ => 0#8)) FAgreePoints.arrI31) (.agg [(32, fun q => VU .u8 (x_148 q)), (16, fun q => VU .u8 (x_149 q)), (64, fun q => VU .u8 (x_150 q))] [(32, fun q => VU .u8 (x_151 q)), (32, fun q => VU .u8 (x_152 q)), (1, fun _ => VU .u32 x_153)] [(1, fun _ => VN x_154)] [(32, fun q => VU .u8 ((fun _ => 0#8) q)), (16, fun q => VU .u8 ((fun _ => 0#8) q)), (64, fun q => VU .u8 ((fun _ => 0#8) q))] [(32, fun q => VU .u8 ((fun _ => 0#8) q)), (32, fun q => VU .u8 ((fun _ => 0#8) q)), (1, fun _ => VU .u32 (0#32))] [(1, fun _ => VN 70)] rfl rfl rfl rfl FAgreePoints.agg33 FAgreePoints.agg33 (EqV.struct (d := 9998) (l := [(23, 0), (23, 32), (26, 64)]) FAgreePoints.flds33 (.agg [] [(32, fun q => VU .u8 (x_151 q))] [(32, fun q => VU .u8 (x_152 q)), (1, fun _ => VU .u32 x_153)] [] [(32, fun q => VU .u8 ((fun _ => 0#8) q))] [(32, fun q => VU .u8 ((fun _ => 0#8) q)), (1, fun _ => VU .u32 (0#32))] rfl rfl rfl rfl FAgreePoints.agg23 FAgreePoints.agg23 (EqV.arr (d := 9996) (F := x_151) (G := (fun _ => 0#8)) FAgreePoints.arrI23) (.agg [(32, fun q => VU .u8 (x_151 q))] [(32, fun q => VU .u8 (x_152 q))] [(1, fun _ => VU .u32 x_153)] [(32, fun q => VU .u8 ((fun _ => 0#8) q))] [(32, fun q => VU .u8 ((fun _ => 0#8) q))] [(1, fun _ => VU .u32 (0#32))] rfl rfl rfl rfl FAgreePoints.agg23 FAgreePoints.agg23 (EqV.arr (d := 9996) (F := x_152) (G := (fun _ => 0#8)) FAgreePoints.arrI23) (.one [(32, fun q => VU .u8 (x_151 q)), (32, fun q => VU .u8 (x_152 q))] [] [(32, fun q => VU .u8 ((fun _ => 0#8) q)), (32, fun q => VU .u8 ((fun _ => 0#8) q))] [] (fun _ => VU .u32 x_153) (fun _ => VU .u32 (0#32)) rfl rfl rfl rfl FAgreePoints.sc26 rfl rfl (EqV.u (d := 9997) (a := x_153) (b := (0#32)) FAgreePoints.int26) .nil)))) (.one [(32, fun q => VU .u8 (x_148 q)), (16, fun q => VU .u8 (x_149 q)), (64, fun q => VU .u8 (x_150 q)), (32, fun q => VU .u8 (x_151 q)), (32, fun q => VU .u8 (x_152 q)), (1, fun _ => VU .u32 x_153)] [] [(32, fun q => VU .u8 ((fun _ => 0#8) q)), (16, fun q => VU .u8 ((fun _ => 0#8) q)), (64, fun q => VU .u8 ((fun _ => 0#8) q)), (32, fun q => VU .u8 ((fun _ => 0#8) q)), (32, fun q => VU .u8 ((fun _ => 0#8) q)), (1, fun _ => VU .u32 (0#32))] [] (fun _ => VN x_154) (fun _ => VN 70) rfl rfl rfl rfl FAgreePoints.sc3 rfl rfl (EqV.nat (d := 9998) (a := x_154) (b := 70) FAgreePoints.int3) .nil)))))) hc156 ?_
            refine Plan.move_bool rfl rfl ?_
            refine Plan.loadA h155 rfl rfl (.cons 13 rfl (.cons 14 rfl .nil)) FAgreePoints.agg25 ?_
            refine Plan.loadA h155 rfl rfl (.cons 13 rfl (.cons 14 rfl .nil)) FAgreePoints.agg25 ?_
            refine Plan.loadA h155 rfl rfl (.cons 7 rfl (.cons 8 rfl (.cons 9 rfl .nil))) FAgreePoints.agg33 ?_
            refine Plan.loadA h155 rfl rfl (.cons 0 rfl (.cons 1 rfl (.cons 2 rfl (.cons 3 rfl (.cons 4 rfl (.cons 5 rfl (.cons 6 rfl .nil))))))) FAgreePoints.agg35 ?_
            obtain ⟨x_158, x_159, x_160, x_161, x_162, x_163, x_164, hr157, hR⟩ := hR
            refine Plan.call (vs := [AG [(32, fun q => VU .u8 (x_38 q)), (32, fun q => VU .u8 (x_39 q))], AG [(32, fun q => VU .u8 (x_38 q)), (32, fun q => VU .u8 (x_39 q))], AG [(32, fun q => VU .u8 (m101 q)), (32, fun q => VU .u8 (m102 q)), (1, fun _ => VU .u32 (1#32))]]) rfl FAgreePoints.call12 rfl (lethelaw17_meet_ok (iG0 := iG0 + 15) hG0 (iG1 := iG1 + 15) hG1 (iG3 := iG3 + 15) hG3 hr157 h155) ?_
            rintro _ w165 ⟨rfl, h165⟩
            refine ⟨_, rfl, .inl ⟨PIn.keep (PIn.parts (.cons 0 rfl (.cons 1 rfl (.cons 2 rfl (.cons 3 rfl (.cons 4 rfl (.cons 5 rfl (.cons 6 rfl .nil))))))) (PIn.parts (.cons 7 rfl (.cons 8 rfl (.cons 9 rfl .nil))) (PIn.parts (.cons 13 rfl (.cons 14 rfl .nil)) (PIn.parts (.cons 13 rfl (.cons 14 rfl .nil)) (PIn.parts (.cons 0 rfl (.cons 1 rfl (.cons 2 rfl (.cons 3 rfl (.cons 4 rfl (.cons 5 rfl (.cons 6 rfl .nil))))))) (PIn.parts (.cons 10 rfl (.cons 11 rfl (.cons 12 rfl .nil))) (PIn.parts (.cons 13 rfl (.cons 14 rfl .nil)) (PIn.parts (.cons 13 rfl (.cons 14 rfl .nil)) PIn.nil)))))))) h165, ?_⟩⟩
            refine Plan.neStrV' (c := ((eqB 32 x_158 (fun _ => 0#8)) && ((eqB 16 x_159 (fun _ => 0#8)) && ((eqB 64 x_160 (fun _ => 0#8)) && (((eqB 32 x_161 (fun _ => 0#8)) && ((eqB 32 x_162 (fun _ => 0#8)) && ((decide (x_163 = 0#32)) && true))) && ((decide ((x_164 : Nat) = 70)) && true)))))) FAgreePoints.eqg35 rfl rfl rfl (EqV.struct (d := 9999) (l := [(23, 0), (30, 32), (31, 48), (33, 112), (3, 177)]) FAgreePoints.flds35 (.agg [] [(32, fun q => VU .u8 (x_158 q))] [(16, fun q => VU .u8 (x_159 q)), (64, fun q => VU .u8 (x_160 q)), (32, fun q => VU .u8 (x_161 q)), (32, fun q => VU .u8 (x_162 q)), (1, fun _ => VU .u32 x_163), (1, fun _ => VN x_164)] [] [(32, fun q => VU .u8 ((fun _ => 0#8) q))] [(16, fun q => VU .u8 ((fun _ => 0#8) q)), (64, fun q => VU .u8 ((fun _ => 0#8) q)), (32, fun q => VU .u8 ((fun _ => 0#8) q)), (32, fun q => VU .u8 ((fun _ => 0#8) q)), (1, fun _ => VU .u32 (0#32)), (1, fun _ => VN 70)] rfl rfl rfl rfl FAgreePoints.agg23 FAgreePoints.agg23 (EqV.arr (d := 9997) (F := x_158) (G := (fun _ => 0#8)) FAgreePoints.arrI23) (.agg [(32, fun q => VU .u8 (x_158 q))] [(16, fun q => VU .u8 (x_159 q))] [(64, fun q => VU .u8 (x_160 q)), (32, fun q => VU .u8 (x_161 q)), (32, fun q => VU .u8 (x_162 q)), (1, fun _ => VU .u32 x_163), (1, fun _ => VN x_164)] [(32, fun q => VU .u8 ((fun _ => 0#8) q))] [(16, fun q => VU .u8 ((fun _ => 0#8) q))] [(64, fun q => VU .u8 ((fun _ => 0#8) q)), (32, fun q => VU .u8 ((fun _ => 0#8) q)), (32, fun q => VU .u8 ((fun _ => 0#8) q)), (1, fun _ => VU .u32 (0#32)), (1, fun _ => VN 70)] rfl rfl rfl rfl FAgreePoints.agg30 FAgreePoints.agg30 (EqV.arr (d := 9997) (F := x_159) (G := (fun _ => 0#8)) FAgreePoints.arrI30) (.agg [(32, fun q => VU .u8 (x_158 q)), (16, fun q => VU .u8 (x_159 q))] [(64, fun q => VU .u8 (x_160 q))] [(32, fun q => VU .u8 (x_161 q)), (32, fun q => VU .u8 (x_162 q)), (1, fun _ => VU .u32 x_163), (1, fun _ => VN x_164)] [(32, fun q => VU .u8 ((fun _ => 0#8) q)), (16, fun q => VU .u8 ((fun _ => 0#8) q))] [(64, fun q => VU .u8 ((fun _ => 0#8) q))] [(32, fun q => VU .u8 ((fun _ => 0#8) q)), (32, fun q => VU .u8 ((fun _ => 0#8) q)), (1, fun _ => VU .u32 (0#32)), (1, fun _ => VN 70)] rfl rfl rfl rfl FAgreePoints.agg31 FAgreePoints.agg31 (EqV.arr (d := 9997) (F := x_160) (G := (fun _ => 0#8)) FAgreePoints.arrI31) (.agg [(32, fun q => VU .u8 (x_158 q)), (16, fun q => VU .u8 (x_159 q)), (64, fun q => VU .u8 (x_160 q))] [(32, fun q => VU .u8 (x_161 q)), (32, fun q => VU .u8 (x_162 q)), (1, fun _ => VU .u32 x_163)] [(1, fun _ => VN x_164)] [(32, fun q => VU .u8 ((fun _ => 0#8) q)), (16, fun q => VU .u8 ((fun _ => 0#8) q)), (64, fun q => VU .u8 ((fun _ => 0#8) q))] [(32, fun q => VU .u8 ((fun _ => 0#8) q)), (32, fun q => VU .u8 ((fun _ => 0#8) q)), (1, fun _ => VU .u32 (0#32))] [(1, fun _ => VN 70)] rfl rfl rfl rfl FAgreePoints.agg33 FAgreePoints.agg33 (EqV.struct (d := 9998) (l := [(23, 0), (23, 32), (26, 64)]) FAgreePoints.flds33 (.agg [] [(32, fun q => VU .u8 (x_161 q))] [(32, fun q => VU .u8 (x_162 q)), (1, fun _ => VU .u32 x_163)] [] [(32, fun q => VU .u8 ((fun _ => 0#8) q))] [(32, fun q => VU .u8 ((fun _ => 0#8) q)), (1, fun _ => VU .u32 (0#32))] rfl rfl rfl rfl FAgreePoints.agg23 FAgreePoints.agg23 (EqV.arr (d := 9996) (F := x_161) (G := (fun _ => 0#8)) FAgreePoints.arrI23) (.agg [(32, fun q => VU .u8 (x_161 q))] [(32, fun q => VU .u8 (x_162 q))] [(1, fun _ => VU .u32 x_163)] [(32, fun q => VU .u8 ((fun _ => 0#8) q))] [(32, fun q => VU .u8 ((fun _ => 0#8) q))] [(1, fun _ => VU .u32 (0#32))] rfl rfl rfl rfl FAgreePoints.agg23 FAgreePoints.agg23 (EqV.arr (d := 9996) (F := x_162) (G := (fun _ => 0#8)) FAgreePoints.arrI23) (.one [(32, fun q => VU .u8 (x_161 q)), (32, fun q => VU .u8 (x_162 q))] [] [(32, fun q => VU .u8 ((fun _ => 0#8) q)), (32, fun q => VU .u8 ((fun _ => 0#8) q))] [] (fun _ => VU .u32 x_163) (fun _ => VU .u32 (0#32)) rfl rfl rfl rfl FAgreePoints.sc26 rfl rfl (EqV.u (d := 9997) (a := x_163) (b := (0#32)) FAgreePoints.int26) .nil)))) (.one [(32, fun q => VU .u8 (x_158 q)), (16, fun q => VU .u8 (x_159 q)), (64, fun q => VU .u8 (x_160 q)), (32, fun q => VU .u8 (x_161 q)), (32, fun q => VU .u8 (x_162 q)), (1, fun _ => VU .u32 x_163)] [] [(32, fun q => VU .u8 ((fun _ => 0#8) q)), (16, fun q => VU .u8 ((fun _ => 0#8) q)), (64, fun q => VU .u8 ((fun _ => 0#8) q)), (32, fun q => VU .u8 ((fun _ => 0#8) q)), (32, fun q => VU .u8 ((fun _ => 0#8) q)), (1, fun _ => VU .u32 (0#32))] [] (fun _ => VN x_164) (fun _ => VN 70) rfl rfl rfl rfl FAgreePoints.sc3 rfl rfl (EqV.nat (d := 9998) (a := x_164) (b := 70) FAgreePoints.int3) .nil)))))) rfl ?_
            refine Plan.pickFb rfl rfl rfl ?_
            refine Plan.nil ?_
            refine hK145 _ _ ?_; clear hK145
            by_cases hc166 : ((eqB 32 x_158 (fun _ => 0#8)) && ((eqB 16 x_159 (fun _ => 0#8)) && ((eqB 64 x_160 (fun _ => 0#8)) && (((eqB 32 x_161 (fun _ => 0#8)) && ((eqB 32 x_162 (fun _ => 0#8)) && ((decide (x_163 = 0#32)) && true))) && ((decide ((x_164 : Nat) = 70)) && true))))) = true
            ·
              replace hR := ifT hR hc166
              refine W.condF (congrArg Value.bool (congrArg Bool.not hc166)) ?_
              refine W.skip ?_
              refine hK120 _ _ ?_; clear hK120
              refine W.seq_k fun K167 hK167 => ?_
              refine W.regionT [(0, true), (1, false), (2, true), (3, false)] (by kernel_rfl) ?_
              refine Plan.fieldAddr 32 FAgreePoints.fld28_1 rfl rfl ?_
              refine Plan.storeC_int h165 11 rfl rfl rfl rfl FAgreePoints.sz26 rfl fun w168 h168 => ?_
              simp only [List.cons_append, List.nil_append, List.set_cons_zero, List.set_cons_succ] at h168
              refine Plan.fieldAddr 64 FAgreePoints.fld33_2 rfl rfl ?_
              refine Plan.storeC_int h168 9 rfl rfl rfl rfl FAgreePoints.sz26 rfl fun w169 h169 => ?_
              simp only [List.cons_append, List.nil_append, List.set_cons_zero, List.set_cons_succ] at h169
              refine Plan.nil ?_
              refine hK167 _ _ ?_; clear hK167
              refine W.seq_k fun K170 hK170 => ?_
              refine W.regionT [(0, true), (1, false), (2, false)] (by kernel_rfl) ?_
              refine Plan.buildP (ps := [(32, fun q => VU .u8 ((fun _ => 0#8) q)), (16, fun q => VU .u8 ((fun _ => 0#8) q)), (64, fun q => VU .u8 ((fun _ => 0#8) q)), (32, fun q => VU .u8 ((fun _ => 0#8) q)), (32, fun q => VU .u8 ((fun _ => 0#8) q)), (1, fun _ => VU .u32 (0#32)), (1, fun _ => VN 170)]) FAgreePoints.pl35 (by decide) FAgreePoints.z35 rfl rfl (.one [(32, fun q => VU .u8 ((fun _ => 0#8) q)), (16, fun q => VU .u8 ((fun _ => 0#8) q)), (64, fun q => VU .u8 ((fun _ => 0#8) q)), (32, fun q => VU .u8 ((fun _ => 0#8) q)), (32, fun q => VU .u8 ((fun _ => 0#8) q)), (1, fun _ => VU .u32 (0#32))] [] (fun _ => VN 0) rfl rfl .nil) ?_
              refine Plan.alloc h169 rfl FAgreePoints.z35 PIn.nil fun b171 w171 hb171 h171 => ?_
              simp only [rngs, Nat.zero_add, Nat.reduceAdd, List.cons_append, List.nil_append] at h171
              refine Plan.storeP (ps := [(32, fun q => VU .u8 ((fun _ => 0#8) q)), (16, fun q => VU .u8 ((fun _ => 0#8) q)), (64, fun q => VU .u8 ((fun _ => 0#8) q)), (32, fun q => VU .u8 ((fun _ => 0#8) q)), (32, fun q => VU .u8 ((fun _ => 0#8) q)), (1, fun _ => VU .u32 (0#32)), (1, fun _ => VN 170)]) h171 rfl rfl rfl (.cons 0 rfl (.cons 1 rfl (.cons 2 rfl (.cons 3 rfl (.cons 4 rfl (.cons 5 rfl (.cons 6 rfl .nil))))))) ⟨fun _ _ => rfl, fun _ _ => rfl, fun _ _ => rfl, fun _ _ => rfl, fun _ _ => rfl, fun _ _ => rfl, fun _ _ => rfl, trivial⟩ FAgreePoints.sz35 (EffO.keep PIn.nil) fun w172 h172 => ?_
              simp only [List.cons_append, List.nil_append, List.set_cons_zero, List.set_cons_succ] at h172
              refine Plan.nil ?_
              refine hK170 _ _ ?_; clear hK170
              refine W.seq_k fun K173 hK173 => ?_
              refine W.regionD FAgreePoints.mixed [(0, true), (1, true), (2, true), (4, true), (3, false), (5, true), (6, true), (7, true), (8, true), (9, true), (11, true), (10, false), (12, true), (13, true), (14, true)] (by kernel_rfl) ?_
              have h174 := h172.drew
              refine Plan.loadA h174 rfl rfl (.cons 20 rfl (.cons 21 rfl .nil)) FAgreePoints.agg25 ?_
              refine Plan.loadA h174 rfl rfl (.cons 20 rfl (.cons 21 rfl .nil)) FAgreePoints.agg25 ?_
              refine Plan.loadA h174 rfl rfl (.cons 17 rfl (.cons 18 rfl (.cons 19 rfl .nil))) FAgreePoints.agg28 ?_
              refine Plan.loadA h174 rfl rfl (.cons 0 rfl (.cons 1 rfl (.cons 2 rfl (.cons 3 rfl (.cons 4 rfl (.cons 5 rfl (.cons 6 rfl .nil))))))) FAgreePoints.agg35 ?_
              obtain ⟨x_176, x_177, x_178, x_179, x_180, x_181, x_182, hr175, hR⟩ := hR
              refine Plan.call (vs := [AG [(32, fun q => VU .u8 (x_38 q)), (32, fun q => VU .u8 (x_39 q))], AG [(32, fun q => VU .u8 (x_38 q)), (32, fun q => VU .u8 (x_39 q))], AG [(32, fun q => VU .u8 (m103 q)), (1, fun _ => VU .u32 (0#32)), (32, fun q => VU .u8 (m104 q))]]) rfl FAgreePoints.call7 rfl (lethelaw17_start_ok (iG0 := iG0 + 22) hG0 (iG1 := iG1 + 22) hG1 (iG3 := iG3 + 22) hG3 hr175 h174) ?_
              rintro _ w183 ⟨rfl, h183⟩
              refine ⟨_, rfl, .inl ⟨PIn.keep (PIn.parts (.cons 0 rfl (.cons 1 rfl (.cons 2 rfl (.cons 3 rfl (.cons 4 rfl (.cons 5 rfl (.cons 6 rfl .nil))))))) (PIn.parts (.cons 17 rfl (.cons 18 rfl (.cons 19 rfl .nil))) (PIn.parts (.cons 20 rfl (.cons 21 rfl .nil)) (PIn.parts (.cons 20 rfl (.cons 21 rfl .nil)) PIn.nil)))) h183, ?_⟩⟩
              by_cases hc184 : ((eqB 32 x_176 (fun _ => 0#8)) && ((eqB 16 x_177 (fun _ => 0#8)) && ((eqB 64 x_178 (fun _ => 0#8)) && (((eqB 32 x_179 (fun _ => 0#8)) && ((eqB 32 x_180 (fun _ => 0#8)) && ((decide (x_181 = 0#32)) && true))) && ((decide ((x_182 : Nat) = 170)) && true))))) = true
              ·
                replace hR := ifT hR hc184
                refine Plan.eqStrV' (c := true) FAgreePoints.eqg35 rfl rfl rfl (EqV.struct (d := 9999) (l := [(23, 0), (30, 32), (31, 48), (33, 112), (3, 177)]) FAgreePoints.flds35 (.agg [] [(32, fun q => VU .u8 (x_176 q))] [(16, fun q => VU .u8 (x_177 q)), (64, fun q => VU .u8 (x_178 q)), (32, fun q => VU .u8 (x_179 q)), (32, fun q => VU .u8 (x_180 q)), (1, fun _ => VU .u32 x_181), (1, fun _ => VN x_182)] [] [(32, fun q => VU .u8 ((fun _ => 0#8) q))] [(16, fun q => VU .u8 ((fun _ => 0#8) q)), (64, fun q => VU .u8 ((fun _ => 0#8) q)), (32, fun q => VU .u8 ((fun _ => 0#8) q)), (32, fun q => VU .u8 ((fun _ => 0#8) q)), (1, fun _ => VU .u32 (0#32)), (1, fun _ => VN 170)] rfl rfl rfl rfl FAgreePoints.agg23 FAgreePoints.agg23 (EqV.arr (d := 9997) (F := x_176) (G := (fun _ => 0#8)) FAgreePoints.arrI23) (.agg [(32, fun q => VU .u8 (x_176 q))] [(16, fun q => VU .u8 (x_177 q))] [(64, fun q => VU .u8 (x_178 q)), (32, fun q => VU .u8 (x_179 q)), (32, fun q => VU .u8 (x_180 q)), (1, fun _ => VU .u32 x_181), (1, fun _ => VN x_182)] [(32, fun q => VU .u8 ((fun _ => 0#8) q))] [(16, fun q => VU .u8 ((fun _ => 0#8) q))] [(64, fun q => VU .u8 ((fun _ => 0#8) q)), (32, fun q => VU .u8 ((fun _ => 0#8) q)), (32, fun q => VU .u8 ((fun _ => 0#8) q)), (1, fun _ => VU .u32 (0#32)), (1, fun _ => VN 170)] rfl rfl rfl rfl FAgreePoints.agg30 FAgreePoints.agg30 (EqV.arr (d := 9997) (F := x_177) (G := (fun _ => 0#8)) FAgreePoints.arrI30) (.agg [(32, fun q => VU .u8 (x_176 q)), (16, fun q => VU .u8 (x_177 q))] [(64, fun q => VU .u8 (x_178 q))] [(32, fun q => VU .u8 (x_179 q)), (32, fun q => VU .u8 (x_180 q)), (1, fun _ => VU .u32 x_181), (1, fun _ => VN x_182)] [(32, fun q => VU .u8 ((fun _ => 0#8) q)), (16, fun q => VU .u8 ((fun _ => 0#8) q))] [(64, fun q => VU .u8 ((fun _ => 0#8) q))] [(32, fun q => VU .u8 ((fun _ => 0#8) q)), (32, fun q => VU .u8 ((fun _ => 0#8) q)), (1, fun _ => VU .u32 (0#32)), (1, fun _ => VN 170)] rfl rfl rfl rfl FAgreePoints.agg31 FAgreePoints.agg31 (EqV.arr (d := 9997) (F := x_178) (G := (fun _ => 0#8)) FAgreePoints.arrI31) (.agg [(32, fun q => VU .u8 (x_176 q)), (16, fun q => VU .u8 (x_177 q)), (64, fun q => VU .u8 (x_178 q))] [(32, fun q => VU .u8 (x_179 q)), (32, fun q => VU .u8 (x_180 q)), (1, fun _ => VU .u32 x_181)] [(1, fun _ => VN x_182)] [(32, fun q => VU .u8 ((fun _ => 0#8) q)), (16, fun q => VU .u8 ((fun _ => 0#8) q)), (64, fun q => VU .u8 ((fun _ => 0#8) q))] [(32, fun q => VU .u8 ((fun _ => 0#8) q)), (32, fun q => VU .u8 ((fun _ => 0#8) q)), (1, fun _ => VU .u32 (0#32))] [(1, fun _ => VN 170)] rfl rfl rfl rfl FAgreePoints.agg33 FAgreePoints.agg33 (EqV.struct (d := 9998) (l := [(23, 0), (23, 32), (26, 64)]) FAgreePoints.flds33 (.agg [] [(32, fun q => VU .u8 (x_179 q))] [(32, fun q => VU .u8 (x_180 q)), (1, fun _ => VU .u32 x_181)] [] [(32, fun q => VU .u8 ((fun _ => 0#8) q))] [(32, fun q => VU .u8 ((fun _ => 0#8) q)), (1, fun _ => VU .u32 (0#32))] rfl rfl rfl rfl FAgreePoints.agg23 FAgreePoints.agg23 (EqV.arr (d := 9996) (F := x_179) (G := (fun _ => 0#8)) FAgreePoints.arrI23) (.agg [(32, fun q => VU .u8 (x_179 q))] [(32, fun q => VU .u8 (x_180 q))] [(1, fun _ => VU .u32 x_181)] [(32, fun q => VU .u8 ((fun _ => 0#8) q))] [(32, fun q => VU .u8 ((fun _ => 0#8) q))] [(1, fun _ => VU .u32 (0#32))] rfl rfl rfl rfl FAgreePoints.agg23 FAgreePoints.agg23 (EqV.arr (d := 9996) (F := x_180) (G := (fun _ => 0#8)) FAgreePoints.arrI23) (.one [(32, fun q => VU .u8 (x_179 q)), (32, fun q => VU .u8 (x_180 q))] [] [(32, fun q => VU .u8 ((fun _ => 0#8) q)), (32, fun q => VU .u8 ((fun _ => 0#8) q))] [] (fun _ => VU .u32 x_181) (fun _ => VU .u32 (0#32)) rfl rfl rfl rfl FAgreePoints.sc26 rfl rfl (EqV.u (d := 9997) (a := x_181) (b := (0#32)) FAgreePoints.int26) .nil)))) (.one [(32, fun q => VU .u8 (x_176 q)), (16, fun q => VU .u8 (x_177 q)), (64, fun q => VU .u8 (x_178 q)), (32, fun q => VU .u8 (x_179 q)), (32, fun q => VU .u8 (x_180 q)), (1, fun _ => VU .u32 x_181)] [] [(32, fun q => VU .u8 ((fun _ => 0#8) q)), (16, fun q => VU .u8 ((fun _ => 0#8) q)), (64, fun q => VU .u8 ((fun _ => 0#8) q)), (32, fun q => VU .u8 ((fun _ => 0#8) q)), (32, fun q => VU .u8 ((fun _ => 0#8) q)), (1, fun _ => VU .u32 (0#32))] [] (fun _ => VN x_182) (fun _ => VN 170) rfl rfl rfl rfl FAgreePoints.sc3 rfl rfl (EqV.nat (d := 9998) (a := x_182) (b := 170) FAgreePoints.int3) .nil)))))) hc184 ?_
                refine Plan.move_bool rfl rfl ?_
                refine Plan.loadA h183 rfl rfl (.cons 20 rfl (.cons 21 rfl .nil)) FAgreePoints.agg25 ?_
                refine Plan.loadA h183 rfl rfl (.cons 20 rfl (.cons 21 rfl .nil)) FAgreePoints.agg25 ?_
                refine Plan.loadA h183 rfl rfl (.cons 14 rfl (.cons 15 rfl (.cons 16 rfl .nil))) FAgreePoints.agg33 ?_
                refine Plan.loadA h183 rfl rfl (.cons 0 rfl (.cons 1 rfl (.cons 2 rfl (.cons 3 rfl (.cons 4 rfl (.cons 5 rfl (.cons 6 rfl .nil))))))) FAgreePoints.agg35 ?_
                obtain ⟨x_186, x_187, x_188, x_189, x_190, x_191, x_192, hr185, hR⟩ := hR
                refine Plan.call (vs := [AG [(32, fun q => VU .u8 (x_38 q)), (32, fun q => VU .u8 (x_39 q))], AG [(32, fun q => VU .u8 (x_38 q)), (32, fun q => VU .u8 (x_39 q))], AG [(32, fun q => VU .u8 (m101 q)), (32, fun q => VU .u8 (m102 q)), (1, fun _ => VU .u32 (0#32))]]) rfl FAgreePoints.call12 rfl (lethelaw17_meet_ok (iG0 := iG0 + 22) hG0 (iG1 := iG1 + 22) hG1 (iG3 := iG3 + 22) hG3 hr185 h183) ?_
                rintro _ w193 ⟨rfl, h193⟩
                refine ⟨_, rfl, .inl ⟨PIn.keep (PIn.parts (.cons 0 rfl (.cons 1 rfl (.cons 2 rfl (.cons 3 rfl (.cons 4 rfl (.cons 5 rfl (.cons 6 rfl .nil))))))) (PIn.parts (.cons 14 rfl (.cons 15 rfl (.cons 16 rfl .nil))) (PIn.parts (.cons 20 rfl (.cons 21 rfl .nil)) (PIn.parts (.cons 20 rfl (.cons 21 rfl .nil)) (PIn.parts (.cons 0 rfl (.cons 1 rfl (.cons 2 rfl (.cons 3 rfl (.cons 4 rfl (.cons 5 rfl (.cons 6 rfl .nil))))))) (PIn.parts (.cons 17 rfl (.cons 18 rfl (.cons 19 rfl .nil))) (PIn.parts (.cons 20 rfl (.cons 21 rfl .nil)) (PIn.parts (.cons 20 rfl (.cons 21 rfl .nil)) PIn.nil)))))))) h193, ?_⟩⟩
                refine Plan.eqStrV' (c := ((eqB 32 x_186 (fun _ => 0#8)) && ((eqB 16 x_187 (fun _ => 0#8)) && ((eqB 64 x_188 (fun _ => 0#8)) && (((eqB 32 x_189 (fun _ => 0#8)) && ((eqB 32 x_190 (fun _ => 0#8)) && ((decide (x_191 = 0#32)) && true))) && ((decide ((x_192 : Nat) = 170)) && true)))))) FAgreePoints.eqg35 rfl rfl rfl (EqV.struct (d := 9999) (l := [(23, 0), (30, 32), (31, 48), (33, 112), (3, 177)]) FAgreePoints.flds35 (.agg [] [(32, fun q => VU .u8 (x_186 q))] [(16, fun q => VU .u8 (x_187 q)), (64, fun q => VU .u8 (x_188 q)), (32, fun q => VU .u8 (x_189 q)), (32, fun q => VU .u8 (x_190 q)), (1, fun _ => VU .u32 x_191), (1, fun _ => VN x_192)] [] [(32, fun q => VU .u8 ((fun _ => 0#8) q))] [(16, fun q => VU .u8 ((fun _ => 0#8) q)), (64, fun q => VU .u8 ((fun _ => 0#8) q)), (32, fun q => VU .u8 ((fun _ => 0#8) q)), (32, fun q => VU .u8 ((fun _ => 0#8) q)), (1, fun _ => VU .u32 (0#32)), (1, fun _ => VN 170)] rfl rfl rfl rfl FAgreePoints.agg23 FAgreePoints.agg23 (EqV.arr (d := 9997) (F := x_186) (G := (fun _ => 0#8)) FAgreePoints.arrI23) (.agg [(32, fun q => VU .u8 (x_186 q))] [(16, fun q => VU .u8 (x_187 q))] [(64, fun q => VU .u8 (x_188 q)), (32, fun q => VU .u8 (x_189 q)), (32, fun q => VU .u8 (x_190 q)), (1, fun _ => VU .u32 x_191), (1, fun _ => VN x_192)] [(32, fun q => VU .u8 ((fun _ => 0#8) q))] [(16, fun q => VU .u8 ((fun _ => 0#8) q))] [(64, fun q => VU .u8 ((fun _ => 0#8) q)), (32, fun q => VU .u8 ((fun _ => 0#8) q)), (32, fun q => VU .u8 ((fun _ => 0#8) q)), (1, fun _ => VU .u32 (0#32)), (1, fun _ => VN 170)] rfl rfl rfl rfl FAgreePoints.agg30 FAgreePoints.agg30 (EqV.arr (d := 9997) (F := x_187) (G := (fun _ => 0#8)) FAgreePoints.arrI30) (.agg [(32, fun q => VU .u8 (x_186 q)), (16, fun q => VU .u8 (x_187 q))] [(64, fun q => VU .u8 (x_188 q))] [(32, fun q => VU .u8 (x_189 q)), (32, fun q => VU .u8 (x_190 q)), (1, fun _ => VU .u32 x_191), (1, fun _ => VN x_192)] [(32, fun q => VU .u8 ((fun _ => 0#8) q)), (16, fun q => VU .u8 ((fun _ => 0#8) q))] [(64, fun q => VU .u8 ((fun _ => 0#8) q))] [(32, fun q => VU .u8 ((fun _ => 0#8) q)), (32, fun q => VU .u8 ((fun _ => 0#8) q)), (1, fun _ => VU .u32 (0#32)), (1, fun _ => VN 170)] rfl rfl rfl rfl FAgreePoints.agg31 FAgreePoints.agg31 (EqV.arr (d := 9997) (F := x_188) (G := (fun _ => 0#8)) FAgreePoints.arrI31) (.agg [(32, fun q => VU .u8 (x_186 q)), (16, fun q => VU .u8 (x_187 q)), (64, fun q => VU .u8 (x_188 q))] [(32, fun q => VU .u8 (x_189 q)), (32, fun q => VU .u8 (x_190 q)), (1, fun _ => VU .u32 x_191)] [(1, fun _ => VN x_192)] [(32, fun q => VU .u8 ((fun _ => 0#8) q)), (16, fun q => VU .u8 ((fun _ => 0#8) q)), (64, fun q => VU .u8 ((fun _ => 0#8) q))] [(32, fun q => VU .u8 ((fun _ => 0#8) q)), (32, fun q => VU .u8 ((fun _ => 0#8) q)), (1, fun _ => VU .u32 (0#32))] [(1, fun _ => VN 170)] rfl rfl rfl rfl FAgreePoints.agg33 FAgreePoints.agg33 (EqV.struct (d := 9998) (l := [(23, 0), (23, 32), (26, 64)]) FAgreePoints.flds33 (.agg [] [(32, fun q => VU .u8 (x_189 q))] [(32, fun q => VU .u8 (x_190 q)), (1, fun _ => VU .u32 x_191)] [] [(32, fun q => VU .u8 ((fun _ => 0#8) q))] [(32, fun q => VU .u8 ((fun _ => 0#8) q)), (1, fun _ => VU .u32 (0#32))] rfl rfl rfl rfl FAgreePoints.agg23 FAgreePoints.agg23 (EqV.arr (d := 9996) (F := x_189) (G := (fun _ => 0#8)) FAgreePoints.arrI23) (.agg [(32, fun q => VU .u8 (x_189 q))] [(32, fun q => VU .u8 (x_190 q))] [(1, fun _ => VU .u32 x_191)] [(32, fun q => VU .u8 ((fun _ => 0#8) q))] [(32, fun q => VU .u8 ((fun _ => 0#8) q))] [(1, fun _ => VU .u32 (0#32))] rfl rfl rfl rfl FAgreePoints.agg23 FAgreePoints.agg23 (EqV.arr (d := 9996) (F := x_190) (G := (fun _ => 0#8)) FAgreePoints.arrI23) (.one [(32, fun q => VU .u8 (x_189 q)), (32, fun q => VU .u8 (x_190 q))] [] [(32, fun q => VU .u8 ((fun _ => 0#8) q)), (32, fun q => VU .u8 ((fun _ => 0#8) q))] [] (fun _ => VU .u32 x_191) (fun _ => VU .u32 (0#32)) rfl rfl rfl rfl FAgreePoints.sc26 rfl rfl (EqV.u (d := 9997) (a := x_191) (b := (0#32)) FAgreePoints.int26) .nil)))) (.one [(32, fun q => VU .u8 (x_186 q)), (16, fun q => VU .u8 (x_187 q)), (64, fun q => VU .u8 (x_188 q)), (32, fun q => VU .u8 (x_189 q)), (32, fun q => VU .u8 (x_190 q)), (1, fun _ => VU .u32 x_191)] [] [(32, fun q => VU .u8 ((fun _ => 0#8) q)), (16, fun q => VU .u8 ((fun _ => 0#8) q)), (64, fun q => VU .u8 ((fun _ => 0#8) q)), (32, fun q => VU .u8 ((fun _ => 0#8) q)), (32, fun q => VU .u8 ((fun _ => 0#8) q)), (1, fun _ => VU .u32 (0#32))] [] (fun _ => VN x_192) (fun _ => VN 170) rfl rfl rfl rfl FAgreePoints.sc3 rfl rfl (EqV.nat (d := 9998) (a := x_192) (b := 170) FAgreePoints.int3) .nil)))))) rfl ?_
                refine Plan.pickTb rfl rfl rfl ?_
                refine Plan.assign_bool rfl rfl ?_
                refine Plan.nil ?_
                refine hK173 _ _ ?_; clear hK173
                refine W.ret (finR_ret ?_)
                have h194 := St.pickT (C := [_, _, _, _, _, _, _, _, _, _, _, _, _, _, _, _, _, _, _, _, _, _]) h193 [] (by decide)
                simp only [pick, List.filterMap_cons, List.filterMap_nil, List.getElem?_cons_zero, List.getElem?_cons_succ, List.cons_append, List.nil_append] at h194
                subst r
                refine RetOk.mk (.tmp_bool rfl .nil) ?_
                exact ⟨rfl, h194⟩
              ·
                replace hR := ifF hR hc184
                refine Plan.eqStrV' (c := false) FAgreePoints.eqg35 rfl rfl rfl (EqV.struct (d := 9999) (l := [(23, 0), (30, 32), (31, 48), (33, 112), (3, 177)]) FAgreePoints.flds35 (.agg [] [(32, fun q => VU .u8 (x_176 q))] [(16, fun q => VU .u8 (x_177 q)), (64, fun q => VU .u8 (x_178 q)), (32, fun q => VU .u8 (x_179 q)), (32, fun q => VU .u8 (x_180 q)), (1, fun _ => VU .u32 x_181), (1, fun _ => VN x_182)] [] [(32, fun q => VU .u8 ((fun _ => 0#8) q))] [(16, fun q => VU .u8 ((fun _ => 0#8) q)), (64, fun q => VU .u8 ((fun _ => 0#8) q)), (32, fun q => VU .u8 ((fun _ => 0#8) q)), (32, fun q => VU .u8 ((fun _ => 0#8) q)), (1, fun _ => VU .u32 (0#32)), (1, fun _ => VN 170)] rfl rfl rfl rfl FAgreePoints.agg23 FAgreePoints.agg23 (EqV.arr (d := 9997) (F := x_176) (G := (fun _ => 0#8)) FAgreePoints.arrI23) (.agg [(32, fun q => VU .u8 (x_176 q))] [(16, fun q => VU .u8 (x_177 q))] [(64, fun q => VU .u8 (x_178 q)), (32, fun q => VU .u8 (x_179 q)), (32, fun q => VU .u8 (x_180 q)), (1, fun _ => VU .u32 x_181), (1, fun _ => VN x_182)] [(32, fun q => VU .u8 ((fun _ => 0#8) q))] [(16, fun q => VU .u8 ((fun _ => 0#8) q))] [(64, fun q => VU .u8 ((fun _ => 0#8) q)), (32, fun q => VU .u8 ((fun _ => 0#8) q)), (32, fun q => VU .u8 ((fun _ => 0#8) q)), (1, fun _ => VU .u32 (0#32)), (1, fun _ => VN 170)] rfl rfl rfl rfl FAgreePoints.agg30 FAgreePoints.agg30 (EqV.arr (d := 9997) (F := x_177) (G := (fun _ => 0#8)) FAgreePoints.arrI30) (.agg [(32, fun q => VU .u8 (x_176 q)), (16, fun q => VU .u8 (x_177 q))] [(64, fun q => VU .u8 (x_178 q))] [(32, fun q => VU .u8 (x_179 q)), (32, fun q => VU .u8 (x_180 q)), (1, fun _ => VU .u32 x_181), (1, fun _ => VN x_182)] [(32, fun q => VU .u8 ((fun _ => 0#8) q)), (16, fun q => VU .u8 ((fun _ => 0#8) q))] [(64, fun q => VU .u8 ((fun _ => 0#8) q))] [(32, fun q => VU .u8 ((fun _ => 0#8) q)), (32, fun q => VU .u8 ((fun _ => 0#8) q)), (1, fun _ => VU .u32 (0#32)), (1, fun _ => VN 170)] rfl rfl rfl rfl FAgreePoints.agg31 FAgreePoints.agg31 (EqV.arr (d := 9997) (F := x_178) (G := (fun _ => 0#8)) FAgreePoints.arrI31) (.agg [(32, fun q => VU .u8 (x_176 q)), (16, fun q => VU .u8 (x_177 q)), (64, fun q => VU .u8 (x_178 q))] [(32, fun q => VU .u8 (x_179 q)), (32, fun q => VU .u8 (x_180 q)), (1, fun _ => VU .u32 x_181)] [(1, fun _ => VN x_182)] [(32, fun q => VU .u8 ((fun _ => 0#8) q)), (16, fun q => VU .u8 ((fun _ => 0#8) q)), (64, fun q => VU .u8 ((fun _ => 0#8) q))] [(32, fun q => VU .u8 ((fun _ => 0#8) q)), (32, fun q => VU .u8 ((fun _ => 0#8) q)), (1, fun _ => VU .u32 (0#32))] [(1, fun _ => VN 170)] rfl rfl rfl rfl FAgreePoints.agg33 FAgreePoints.agg33 (EqV.struct (d := 9998) (l := [(23, 0), (23, 32), (26, 64)]) FAgreePoints.flds33 (.agg [] [(32, fun q => VU .u8 (x_179 q))] [(32, fun q => VU .u8 (x_180 q)), (1, fun _ => VU .u32 x_181)] [] [(32, fun q => VU .u8 ((fun _ => 0#8) q))] [(32, fun q => VU .u8 ((fun _ => 0#8) q)), (1, fun _ => VU .u32 (0#32))] rfl rfl rfl rfl FAgreePoints.agg23 FAgreePoints.agg23 (EqV.arr (d := 9996) (F := x_179) (G := (fun _ => 0#8)) FAgreePoints.arrI23) (.agg [(32, fun q => VU .u8 (x_179 q))] [(32, fun q => VU .u8 (x_180 q))] [(1, fun _ => VU .u32 x_181)] [(32, fun q => VU .u8 ((fun _ => 0#8) q))] [(32, fun q => VU .u8 ((fun _ => 0#8) q))] [(1, fun _ => VU .u32 (0#32))] rfl rfl rfl rfl FAgreePoints.agg23 FAgreePoints.agg23 (EqV.arr (d := 9996) (F := x_180) (G := (fun _ => 0#8)) FAgreePoints.arrI23) (.one [(32, fun q => VU .u8 (x_179 q)), (32, fun q => VU .u8 (x_180 q))] [] [(32, fun q => VU .u8 ((fun _ => 0#8) q)), (32, fun q => VU .u8 ((fun _ => 0#8) q))] [] (fun _ => VU .u32 x_181) (fun _ => VU .u32 (0#32)) rfl rfl rfl rfl FAgreePoints.sc26 rfl rfl (EqV.u (d := 9997) (a := x_181) (b := (0#32)) FAgreePoints.int26) .nil)))) (.one [(32, fun q => VU .u8 (x_176 q)), (16, fun q => VU .u8 (x_177 q)), (64, fun q => VU .u8 (x_178 q)), (32, fun q => VU .u8 (x_179 q)), (32, fun q => VU .u8 (x_180 q)), (1, fun _ => VU .u32 x_181)] [] [(32, fun q => VU .u8 ((fun _ => 0#8) q)), (16, fun q => VU .u8 ((fun _ => 0#8) q)), (64, fun q => VU .u8 ((fun _ => 0#8) q)), (32, fun q => VU .u8 ((fun _ => 0#8) q)), (32, fun q => VU .u8 ((fun _ => 0#8) q)), (1, fun _ => VU .u32 (0#32))] [] (fun _ => VN x_182) (fun _ => VN 170) rfl rfl rfl rfl FAgreePoints.sc3 rfl rfl (EqV.nat (d := 9998) (a := x_182) (b := 170) FAgreePoints.int3) .nil)))))) (Bool.eq_false_iff.2 hc184) ?_
                refine Plan.move_bool rfl rfl ?_
                refine Plan.passed rfl ?_
                refine Plan.passed rfl ?_
                refine Plan.passed rfl ?_
                refine Plan.passed rfl ?_
                refine Plan.passed rfl ?_
                refine Plan.passed rfl ?_
                refine Plan.pickFb rfl rfl rfl ?_
                refine Plan.assign_bool rfl rfl ?_
                refine Plan.nil ?_
                refine hK173 _ _ ?_; clear hK173
                refine W.ret (finR_ret ?_)
                have h195 := St.pickT (C := [_, _, _, _, _, _, _, _, _, _, _, _, _, _, _, _, _, _, _, _, _, _]) h183 [] (by decide)
                simp only [pick, List.filterMap_cons, List.filterMap_nil, List.getElem?_cons_zero, List.getElem?_cons_succ, List.cons_append, List.nil_append] at h195
                subst r
                refine RetOk.mk (.tmp_bool rfl .nil) ?_
                exact ⟨rfl, h195⟩
            ·
              replace hR := ifF hR hc166
              refine W.condT (congrArg Value.bool (congrArg Bool.not (Bool.eq_false_iff.2 hc166))) ?_
              refine W.seq_k fun K196 hK196 => ?_
              refine W.regionT [(0, true)] (by kernel_rfl) ?_
              refine Plan.assign_bool rfl rfl ?_
              refine Plan.nil ?_
              refine hK196 _ _ ?_; clear hK196
              refine W.ret (thenR_ret (finR_ret ?_))
              have h197 := St.pickT (C := [_, _, _, _, _, _, _, _, _, _, _, _, _, _, _]) h165 [] (by decide)
              simp only [pick, List.filterMap_cons, List.filterMap_nil, List.getElem?_cons_zero, List.getElem?_cons_succ, List.cons_append, List.nil_append] at h197
              subst r
              refine RetOk.mk (.tmp_bool rfl .nil) ?_
              exact ⟨rfl, h197⟩
          ·
            replace hR := ifF hR hc156
            refine Plan.neStrV' (c := false) FAgreePoints.eqg35 rfl rfl rfl (EqV.struct (d := 9999) (l := [(23, 0), (30, 32), (31, 48), (33, 112), (3, 177)]) FAgreePoints.flds35 (.agg [] [(32, fun q => VU .u8 (x_148 q))] [(16, fun q => VU .u8 (x_149 q)), (64, fun q => VU .u8 (x_150 q)), (32, fun q => VU .u8 (x_151 q)), (32, fun q => VU .u8 (x_152 q)), (1, fun _ => VU .u32 x_153), (1, fun _ => VN x_154)] [] [(32, fun q => VU .u8 ((fun _ => 0#8) q))] [(16, fun q => VU .u8 ((fun _ => 0#8) q)), (64, fun q => VU .u8 ((fun _ => 0#8) q)), (32, fun q => VU .u8 ((fun _ => 0#8) q)), (32, fun q => VU .u8 ((fun _ => 0#8) q)), (1, fun _ => VU .u32 (0#32)), (1, fun _ => VN 70)] rfl rfl rfl rfl FAgreePoints.agg23 FAgreePoints.agg23 (EqV.arr (d := 9997) (F := x_148) (G := (fun _ => 0#8)) FAgreePoints.arrI23) (.agg [(32, fun q => VU .u8 (x_148 q))] [(16, fun q => VU .u8 (x_149 q))] [(64, fun q => VU .u8 (x_150 q)), (32, fun q => VU .u8 (x_151 q)), (32, fun q => VU .u8 (x_152 q)), (1, fun _ => VU .u32 x_153), (1, fun _ => VN x_154)] [(32, fun q => VU .u8 ((fun _ => 0#8) q))] [(16, fun q => VU .u8 ((fun _ => 0#8) q))] [(64, fun q => VU .u8 ((fun _ => 0#8) q)), (32, fun q => VU .u8 ((fun _ => 0#8) q)), (32, fun q => VU .u8 ((fun _ => 0#8) q)), (1, fun _ => VU .u32 (0#32)), (1, fun _ => VN 70)] rfl rfl rfl rfl FAgreePoints.agg30 FAgreePoints.agg30 (EqV.arr (d := 9997) (F := x_149) (G := (fun _ => 0#8)) FAgreePoints.arrI30) (.agg [(32, fun q => VU .u8 (x_148 q)), (16, fun q => VU .u8 (x_149 q))] [(64, fun q => VU .u8 (x_150 q))] [(32, fun q => VU .u8 (x_151 q)), (32, fun q => VU .u8 (x_152 q)), (1, fun _ => VU .u32 x_153), (1, fun _ => VN x_154)] [(32, fun q => VU .u8 ((fun _ => 0#8) q)), (16, fun q => VU .u8 ((fun _ => 0#8) q))] [(64, fun q => VU .u8 ((fun _ => 0#8) q))] [(32, fun q => VU .u8 ((fun _ => 0#8) q)), (32, fun q => VU .u8 ((fun _ => 0#8) q)), (1, fun _ => VU .u32 (0#32)), (1, fun _ => VN 70)] rfl rfl rfl rfl FAgreePoints.agg31 FAgreePoints.agg31 (EqV.arr (d := 9997) (F := x_150) (G := (fun _ => 0#8)) FAgreePoints.arrI31) (.agg [(32, fun q => VU .u8 (x_148 q)), (16, fun q => VU .u8 (x_149 q)), (64, fun q => VU .u8 (x_150 q))] [(32, fun q => VU .u8 (x_151 q)), (32, fun q => VU .u8 (x_152 q)), (1, fun _ => VU .u32 x_153)] [(1, fun _ => VN x_154)] [(32, fun q => VU .u8 ((fun _ => 0#8) q)), (16, fun q => VU .u8 ((fun _ => 0#8) q)), (64, fun q => VU .u8 ((fun _ => 0#8) q))] [(32, fun q => VU .u8 ((fun _ => 0#8) q)), (32, fun q => VU .u8 ((fun _ => 0#8) q)), (1, fun _ => VU .u32 (0#32))] [(1, fun _ => VN 70)] rfl rfl rfl rfl FAgreePoints.agg33 FAgreePoints.agg33 (EqV.struct (d := 9998) (l := [(23, 0), (23, 32), (26, 64)]) FAgreePoints.flds33 (.agg [] [(32, fun q => VU .u8 (x_151 q))] [(32, fun q => VU .u8 (x_152 q)), (1, fun _ => VU .u32 x_153)] [] [(32, fun q => VU .u8 ((fun _ => 0#8) q))] [(32, fun q => VU .u8 ((fun _ => 0#8) q)), (1, fun _ => VU .u32 (0#32))] rfl rfl rfl rfl FAgreePoints.agg23 FAgreePoints.agg23 (EqV.arr (d := 9996) (F := x_151) (G := (fun _ => 0#8)) FAgreePoints.arrI23) (.agg [(32, fun q => VU .u8 (x_151 q))] [(32, fun q => VU .u8 (x_152 q))] [(1, fun _ => VU .u32 x_153)] [(32, fun q => VU .u8 ((fun _ => 0#8) q))] [(32, fun q => VU .u8 ((fun _ => 0#8) q))] [(1, fun _ => VU .u32 (0#32))] rfl rfl rfl rfl FAgreePoints.agg23 FAgreePoints.agg23 (EqV.arr (d := 9996) (F := x_152) (G := (fun _ => 0#8)) FAgreePoints.arrI23) (.one [(32, fun q => VU .u8 (x_151 q)), (32, fun q => VU .u8 (x_152 q))] [] [(32, fun q => VU .u8 ((fun _ => 0#8) q)), (32, fun q => VU .u8 ((fun _ => 0#8) q))] [] (fun _ => VU .u32 x_153) (fun _ => VU .u32 (0#32)) rfl rfl rfl rfl FAgreePoints.sc26 rfl rfl (EqV.u (d := 9997) (a := x_153) (b := (0#32)) FAgreePoints.int26) .nil)))) (.one [(32, fun q => VU .u8 (x_148 q)), (16, fun q => VU .u8 (x_149 q)), (64, fun q => VU .u8 (x_150 q)), (32, fun q => VU .u8 (x_151 q)), (32, fun q => VU .u8 (x_152 q)), (1, fun _ => VU .u32 x_153)] [] [(32, fun q => VU .u8 ((fun _ => 0#8) q)), (16, fun q => VU .u8 ((fun _ => 0#8) q)), (64, fun q => VU .u8 ((fun _ => 0#8) q)), (32, fun q => VU .u8 ((fun _ => 0#8) q)), (32, fun q => VU .u8 ((fun _ => 0#8) q)), (1, fun _ => VU .u32 (0#32))] [] (fun _ => VN x_154) (fun _ => VN 70) rfl rfl rfl rfl FAgreePoints.sc3 rfl rfl (EqV.nat (d := 9998) (a := x_154) (b := 70) FAgreePoints.int3) .nil)))))) (Bool.eq_false_iff.2 hc156) ?_
            refine Plan.move_bool rfl rfl ?_
            refine Plan.passed rfl ?_
            refine Plan.passed rfl ?_
            refine Plan.passed rfl ?_
            refine Plan.passed rfl ?_
            refine Plan.passed rfl ?_
            refine Plan.passed rfl ?_
            refine Plan.pickTb rfl rfl rfl ?_
            refine Plan.nil ?_
            refine hK145 _ _ ?_; clear hK145
            refine W.condT rfl ?_
            refine W.seq_k fun K198 hK198 => ?_
            refine W.regionT [(0, true)] (by kernel_rfl) ?_
            refine Plan.assign_bool rfl rfl ?_
            refine Plan.nil ?_
            refine hK198 _ _ ?_; clear hK198
            refine W.ret (thenR_ret (finR_ret ?_))
            have h199 := St.pickT (C := [_, _, _, _, _, _, _, _, _, _, _, _, _, _, _]) h155 [] (by decide)
            simp only [pick, List.filterMap_cons, List.filterMap_nil, List.getElem?_cons_zero, List.getElem?_cons_succ, List.cons_append, List.nil_append] at h199
            subst r
            refine RetOk.mk (.tmp_bool rfl .nil) ?_
            exact ⟨rfl, h199⟩
      ·
        replace hR := ifF hR hc91
        refine W.condT (congrArg Value.bool (congrArg Bool.not (Bool.eq_false_iff.2 hc91))) ?_
        refine W.seq_k fun K200 hK200 => ?_
        refine W.regionT [(0, true)] (by kernel_rfl) ?_
        refine Plan.assign_bool rfl rfl ?_
        refine Plan.nil ?_
        refine hK200 _ _ ?_; clear hK200
        refine W.ret (thenR_ret (finR_ret ?_))
        have h201 := St.pickT (C := [_, _, _, _, _, _, _, _, _, _, _, _, _, _, _, _, _]) h90 [] (by decide)
        simp only [pick, List.filterMap_cons, List.filterMap_nil, List.getElem?_cons_zero, List.getElem?_cons_succ, List.cons_append, List.nil_append] at h201
        subst r
        refine RetOk.mk (.tmp_bool rfl .nil) ?_
        exact ⟨rfl, h201⟩

end Go.Proofs.YtjclppnbbpnfnaaDoor
