/-
  WALKS of the package's functions, printed by this session's own program (auto.py).
-/
import Derived.Test.YtjclppnbbpnfnaaDoorProg
import Derived.Test.YtjclppnbbpnfnaaDoorEb
import Derived.Test.YtjclppnbbpnfnaaDoorRAgreeIsMade
import Derived.Test.YtjclppnbbpnfnaaDoorEls
import Derived.Test.YtjclppnbbpnfnaaDoorWCurve
import Derived.Test.YtjclppnbbpnfnaaDoorWKdf
import Derived.Test.YtjclppnbbpnfnaaDoorWLaw17
namespace Go.Proofs.YtjclppnbbpnfnaaDoor
set_option linter.unusedSimpArgs false
set_option linter.unusedVariables false
set_option linter.unusedSectionVars false
open Go Go.LW
theorem FAgreeIsMade.mixed : Tryd.prog.follows .mixedOrders = true := by kernel_rfl
theorem FAgreeIsMade.agg23 : aggT Tryd.prog 23 32 = true := by kernel_rfl
theorem FAgreeIsMade.z23 : zeroIs Tryd.prog 23 [(32, fun _ => VU .u8 0#8)] := zeroIs_agg (by kernel_rfl)
theorem FAgreeIsMade.arr23 : arrB Tryd.prog 23 32 1 = true := by kernel_rfl
theorem FAgreeIsMade.sz5 : szT Tryd.prog 5 1 = true := by kernel_rfl
theorem FAgreeIsMade.sz23 : szT Tryd.prog 23 32 = true := by kernel_rfl
theorem FAgreeIsMade.u5 : Tryd.prog.underlying 5 = some (.int .u8) := by kernel_rfl
theorem FAgreeIsMade.agg25 : aggT Tryd.prog 25 64 = true := by kernel_rfl
theorem FAgreeIsMade.fld25_1 : fieldB Tryd.prog 25 1 32 = true := by kernel_rfl
theorem FAgreeIsMade.z35 : zeroIs Tryd.prog 35 [(32, fun _ => VU .u8 0#8), (16, fun _ => VU .u8 0#8), (64, fun _ => VU .u8 0#8), (32, fun _ => VU .u8 0#8), (32, fun _ => VU .u8 0#8), (1, fun _ => VU .u32 0#32), (1, fun _ => .int .i64 0)] := zeroIs_agg (by kernel_rfl)
theorem FAgreeIsMade.agg28 : aggT Tryd.prog 28 65 = true := by kernel_rfl
theorem FAgreeIsMade.z33 : zeroIs Tryd.prog 33 [(32, fun _ => VU .u8 0#8), (32, fun _ => VU .u8 0#8), (1, fun _ => VU .u32 0#32)] := zeroIs_agg (by kernel_rfl)
theorem FAgreeIsMade.fld28_1 : fieldB Tryd.prog 28 1 32 = true := by kernel_rfl
theorem FAgreeIsMade.sc26 : scalarT Tryd.prog 26 = true := by kernel_rfl
theorem FAgreeIsMade.fld25_0 : fieldB Tryd.prog 25 0 0 = true := by kernel_rfl
theorem FAgreeIsMade.fld28_2 : fieldB Tryd.prog 28 2 33 = true := by kernel_rfl
theorem FAgreeIsMade.fld28_0 : fieldB Tryd.prog 28 0 0 = true := by kernel_rfl
theorem FAgreeIsMade.zv5 : (Tryd.prog.info? 5).bind (·.zero) = some (VU .u8 0#8) := by kernel_rfl
theorem FAgreeIsMade.slu40 : Tryd.prog.underlying 40 = some (.slice 5) := by kernel_rfl
theorem FAgreeIsMade.isl40 : ∃ el, Tryd.prog.underlying 40 = some (.slice el) := ⟨5, by kernel_rfl⟩
theorem FAgreeIsMade.sl40 : slB Tryd.prog 40 1 = true := by kernel_rfl
theorem FAgreeIsMade.arrI23 : arrIB Tryd.prog 23 32 .u8 = true := by kernel_rfl
theorem FAgreeIsMade.call8 : callB Tryd.prog 8 = true := by kernel_rfl
theorem FAgreeIsMade.el40 : elD Tryd.prog 40 = some (1, 1, some (VU .u8 0#8)) := by kernel_rfl
theorem FAgreeIsMade.sc3 : scalarT Tryd.prog 3 = true := by kernel_rfl
theorem FAgreeIsMade.agg31 : aggT Tryd.prog 31 64 = true := by kernel_rfl
theorem FAgreeIsMade.sz26 : szT Tryd.prog 26 1 = true := by kernel_rfl
theorem FAgreeIsMade.call9 : callB Tryd.prog 9 = true := by kernel_rfl
theorem FAgreeIsMade.arr30 : arrB Tryd.prog 30 16 1 = true := by kernel_rfl
theorem FAgreeIsMade.agg30 : aggT Tryd.prog 30 16 = true := by kernel_rfl
theorem FAgreeIsMade.pl33 : placesB Tryd.prog 33 [(0, 32), (32, 32), (64, 1)] = true := by kernel_rfl
theorem FAgreeIsMade.agg33 : aggT Tryd.prog 33 65 = true := by kernel_rfl
theorem FAgreeIsMade.pl35 : placesB Tryd.prog 35 [(0, 32), (32, 16), (48, 64), (112, 65), (177, 1)] = true := by kernel_rfl
theorem FAgreeIsMade.sz35 : szT Tryd.prog 35 178 = true := by kernel_rfl
theorem FAgreeIsMade.agg35 : aggT Tryd.prog 35 178 = true := by kernel_rfl
theorem FAgreeIsMade.call7 : callB Tryd.prog 7 = true := by kernel_rfl
theorem FAgreeIsMade.arrI30 : arrIB Tryd.prog 30 16 .u8 = true := by kernel_rfl
theorem FAgreeIsMade.arrI31 : arrIB Tryd.prog 31 64 .u8 = true := by kernel_rfl
theorem FAgreeIsMade.int26 : intT Tryd.prog 26 .u32 = true := by kernel_rfl
theorem FAgreeIsMade.flds33 : fieldsB Tryd.prog 33 [(23, 0), (23, 32), (26, 64)] = true := by kernel_rfl
theorem FAgreeIsMade.int3 : intT Tryd.prog 3 .i64 = true := by kernel_rfl
theorem FAgreeIsMade.flds35 : fieldsB Tryd.prog 35 [(23, 0), (30, 32), (31, 48), (33, 112), (3, 177)] = true := by kernel_rfl
theorem FAgreeIsMade.eqg35 : Tryd.prog.eqGuardType Tryd.prog.depth 35 = false := by kernel_rfl
theorem FAgreeIsMade.fld35_4 : fieldB Tryd.prog 35 4 177 = true := by kernel_rfl
theorem FAgreeIsMade.fld35_3 : fieldB Tryd.prog 35 3 112 = true := by kernel_rfl
theorem FAgreeIsMade.eqg33 : Tryd.prog.eqGuardType Tryd.prog.depth 33 = false := by kernel_rfl
theorem FAgreeIsMade.fld35_0 : fieldB Tryd.prog 35 0 0 = true := by kernel_rfl
theorem FAgreeIsMade.fld35_1 : fieldB Tryd.prog 35 1 32 = true := by kernel_rfl
theorem FAgreeIsMade.str9 : Tryd.prog.underlying 9 = some .string := by kernel_rfl

set_option maxRecDepth 8000 in
set_option maxHeartbeats 1000000 in
theorem lethelaw17_AgreeIsMade_ok {B : Nat} {w0 w : World} {L : List Rg} {iG0 : Nat} (hG0 : L[iG0]? = some ⟨some 0, 0, 5, fun q => VU .u64 (twice5 q), false⟩) {iG1 : Nat} (hG1 : L[iG1]? = some ⟨some 1, 0, 8, fun q => VU .u32 (H256 q), false⟩) {iG3 : Nat} (hG3 : L[iG3]? = some ⟨some 3, 0, 64, fun q => VU .u32 (K256 q), false⟩) {ownPriv1 : Nat → BitVec 8} {ownPub2 : Nat → BitVec 8} {oncePriv3 : Nat → BitVec 8} {oncePub4 : Nat → BitVec 8} {offerIdentity5 : Nat → BitVec 8} {offerPrekey6 : BitVec 32} {offerKey7 : Nat → BitVec 8} {r : Bool} (hR : lethelaw17_AgreeIsMade ownPriv1 ownPub2 oncePriv3 oncePub4 offerIdentity5 offerPrekey6 offerKey7 r) (HST : St B w0 (L) w) :
    Calls Tryd.prog 3 #[AG [(32, fun q => VU .u8 (ownPriv1 q)), (32, fun q => VU .u8 (ownPub2 q))], AG [(32, fun q => VU .u8 (oncePriv3 q)), (32, fun q => VU .u8 (oncePub4 q))], AG [(32, fun q => VU .u8 (offerIdentity5 q)), (1, fun _ => VU .u32 offerPrekey6), (32, fun q => VU .u8 (offerKey7 q))]] w fun e w' => e = .returned (.bool r) ∧ St B w0 (L) w' := by
  refine W.enter 126 Tryd.func3 rfl rfl rfl ?_
  unfold lethelaw17_AgreeIsMade at hR
  refine W.seq_k fun K8 hK8 => ?_
  refine W.regionT [(0, false), (1, false), (2, false), (3, true)] (by kernel_rfl) ?_
  refine Plan.boxA HST rfl rfl PIn.nil fun b9 w9 hb9 h9 => ?_
  simp only [rngs, Nat.zero_add, Nat.reduceAdd, List.cons_append, List.nil_append] at h9
  refine Plan.boxA h9 rfl rfl PIn.nil fun b10 w10 hb10 h10 => ?_
  simp only [rngs, Nat.zero_add, Nat.reduceAdd, List.cons_append, List.nil_append] at h10
  refine Plan.boxA h10 rfl rfl PIn.nil fun b11 w11 hb11 h11 => ?_
  simp only [rngs, Nat.zero_add, Nat.reduceAdd, List.cons_append, List.nil_append] at h11
  refine Plan.assign_bool rfl rfl ?_
  refine Plan.nil ?_
  refine hK8 _ _ ?_; clear hK8
  refine W.seq_k fun K12 hK12 => ?_
  refine W.regionT [(0, true), (1, true), (2, true), (3, true), (4, false)] (by kernel_rfl) ?_
  refine Plan.fieldAddr 32 FAgreeIsMade.fld28_1 rfl rfl ?_
  refine Plan.load0 h11 1 rfl rfl rfl (by omega) FAgreeIsMade.sc26 ?_
  refine Plan.orU .u32 (X := offerPrekey6) (Y := 1#32) rfl rfl rfl ?_
  refine Plan.fieldAddr 32 FAgreeIsMade.fld28_1 rfl rfl ?_
  refine Plan.storeC_int h11 1 rfl rfl rfl rfl FAgreeIsMade.sz26 rfl fun w13 h13 => ?_
  simp only [List.cons_append, List.nil_append, List.set_cons_zero, List.set_cons_succ] at h13
  refine Plan.nil ?_
  refine hK12 _ _ ?_; clear hK12
  refine W.seq_k fun K14 hK14 => ?_
  refine W.regionT [(0, true), (1, true), (2, true), (3, false), (4, false), (5, false)] (by kernel_rfl) ?_
  refine Plan.loadA h13 rfl rfl (.cons 5 rfl (.cons 6 rfl .nil)) FAgreeIsMade.agg25 ?_
  refine Plan.loadA h13 rfl rfl (.cons 3 rfl (.cons 4 rfl .nil)) FAgreeIsMade.agg25 ?_
  refine Plan.loadA h13 rfl rfl (.cons 0 rfl (.cons 1 rfl (.cons 2 rfl .nil))) FAgreeIsMade.agg28 ?_
  obtain ⟨x_16, x_17, x_18, x_19, x_20, x_21, x_22, hr15, hR⟩ := hR
  refine Plan.call (vs := [AG [(32, fun q => VU .u8 (ownPriv1 q)), (32, fun q => VU .u8 (ownPub2 q))], AG [(32, fun q => VU .u8 (oncePriv3 q)), (32, fun q => VU .u8 (oncePub4 q))], AG [(32, fun q => VU .u8 (offerIdentity5 q)), (1, fun _ => VU .u32 (offerPrekey6 ||| (1#32))), (32, fun q => VU .u8 (offerKey7 q))]]) rfl FAgreeIsMade.call7 rfl (lethelaw17_start_ok (iG0 := iG0 + 7) hG0 (iG1 := iG1 + 7) hG1 (iG3 := iG3 + 7) hG3 hr15 h13) ?_
  rintro _ w23 ⟨rfl, h23⟩
  refine ⟨_, rfl, .inr ⟨rfl, ?_⟩⟩
  refine Plan.alloc h23 rfl FAgreeIsMade.z35 PIn.nil fun b24 w24 hb24 h24 => ?_
  simp only [rngs, Nat.zero_add, Nat.reduceAdd, List.cons_append, List.nil_append] at h24
  refine Plan.storeP (ps := [(32, fun q => VU .u8 (x_16 q)), (16, fun q => VU .u8 (x_17 q)), (64, fun q => VU .u8 (x_18 q)), (32, fun q => VU .u8 (x_19 q)), (32, fun q => VU .u8 (x_20 q)), (1, fun _ => VU .u32 x_21), (1, fun _ => VN x_22)]) h24 rfl rfl rfl (.cons 0 rfl (.cons 1 rfl (.cons 2 rfl (.cons 3 rfl (.cons 4 rfl (.cons 5 rfl (.cons 6 rfl .nil))))))) ⟨fun _ _ => rfl, fun _ _ => rfl, fun _ _ => rfl, fun _ _ => rfl, fun _ _ => rfl, fun _ _ => rfl, fun _ _ => rfl, trivial⟩ FAgreeIsMade.sz35 (EffO.keep PIn.nil) fun w25 h25 => ?_
  simp only [List.cons_append, List.nil_append, List.set_cons_zero, List.set_cons_succ] at h25
  refine Plan.nil ?_
  refine hK14 _ _ ?_; clear hK14
  refine W.seq_k fun K26 hK26 => ?_
  refine W.regionT [(0, true), (1, true), (2, true), (3, true), (4, false), (5, true), (6, true), (7, true), (8, false), (9, false), (10, true)] (by kernel_rfl) ?_
  refine Plan.fieldAddr0 FAgreeIsMade.fld25_0 rfl rfl ?_
  refine Plan.loadA1 h25 12 rfl rfl rfl FAgreeIsMade.agg23 ?_
  refine Plan.fieldAddr 33 FAgreeIsMade.fld28_2 rfl rfl ?_
  refine Plan.loadA1 h25 9 rfl rfl rfl FAgreeIsMade.agg23 ?_
  obtain ⟨x_28, x_29, hr27, hR⟩ := hR
  refine Plan.call (vs := [AG [(32, fun q => VU .u8 (ownPriv1 q))], AG [(32, fun q => VU .u8 (offerKey7 q))]]) rfl FAgreeIsMade.call8 rfl (curve_Shared_ok (iG0 := iG0 + 14) hG0 hr27 h25) ?_
  rintro _ w30 ⟨rfl, h30⟩
  refine ⟨_, rfl, .inr ⟨rfl, ?_⟩⟩
  refine Plan.move_tuple rfl rfl ?_
  refine Plan.extract_agg rfl rfl rfl ?_
  refine Plan.extract_int rfl rfl rfl ?_
  refine Plan.alloc h30 rfl FAgreeIsMade.z23 PIn.nil fun b31 w31 hb31 h31 => ?_
  simp only [rngs, Nat.zero_add, Nat.reduceAdd, List.cons_append, List.nil_append] at h31
  refine Plan.storeA (f' := fun q => VU .u8 (x_28 q)) h31 0 rfl rfl rfl rfl (fun _ _ => rfl) FAgreeIsMade.sz23 rfl fun w32 h32 => ?_
  simp only [List.cons_append, List.nil_append, List.set_cons_zero, List.set_cons_succ] at h32
  refine Plan.assign_int rfl rfl ?_
  refine Plan.nil ?_
  refine hK26 _ _ ?_; clear hK26
  refine W.seq_k fun K33 hK33 => ?_
  refine W.regionT [(0, true), (1, true), (2, true), (3, true), (4, false), (5, true), (6, true), (7, true), (8, false), (9, false), (10, true)] (by kernel_rfl) ?_
  refine Plan.fieldAddr0 FAgreeIsMade.fld25_0 rfl rfl ?_
  refine Plan.loadA1 h32 11 rfl rfl rfl FAgreeIsMade.agg23 ?_
  refine Plan.fieldAddr0 FAgreeIsMade.fld28_0 rfl rfl ?_
  refine Plan.loadA1 h32 8 rfl rfl rfl FAgreeIsMade.agg23 ?_
  obtain ⟨x_35, x_36, hr34, hR⟩ := hR
  refine Plan.call (vs := [AG [(32, fun q => VU .u8 (oncePriv3 q))], AG [(32, fun q => VU .u8 (offerIdentity5 q))]]) rfl FAgreeIsMade.call8 rfl (curve_Shared_ok (iG0 := iG0 + 15) hG0 hr34 h32) ?_
  rintro _ w37 ⟨rfl, h37⟩
  refine ⟨_, rfl, .inr ⟨rfl, ?_⟩⟩
  refine Plan.move_tuple rfl rfl ?_
  refine Plan.extract_agg rfl rfl rfl ?_
  refine Plan.extract_int rfl rfl rfl ?_
  refine Plan.alloc h37 rfl FAgreeIsMade.z23 PIn.nil fun b38 w38 hb38 h38 => ?_
  simp only [rngs, Nat.zero_add, Nat.reduceAdd, List.cons_append, List.nil_append] at h38
  refine Plan.storeA (f' := fun q => VU .u8 (x_35 q)) h38 0 rfl rfl rfl rfl (fun _ _ => rfl) FAgreeIsMade.sz23 rfl fun w39 h39 => ?_
  simp only [List.cons_append, List.nil_append, List.set_cons_zero, List.set_cons_succ] at h39
  refine Plan.assign_int rfl rfl ?_
  refine Plan.nil ?_
  refine hK33 _ _ ?_; clear hK33
  refine W.seq_k fun K40 hK40 => ?_
  refine W.regionT [(0, true), (1, true), (2, true), (3, true), (4, false), (5, true), (6, true), (7, true), (8, false), (9, false), (10, true)] (by kernel_rfl) ?_
  refine Plan.fieldAddr0 FAgreeIsMade.fld25_0 rfl rfl ?_
  refine Plan.loadA1 h39 12 rfl rfl rfl FAgreeIsMade.agg23 ?_
  refine Plan.fieldAddr 33 FAgreeIsMade.fld28_2 rfl rfl ?_
  refine Plan.loadA1 h39 11 rfl rfl rfl FAgreeIsMade.agg23 ?_
  obtain ⟨x_42, x_43, hr41, hR⟩ := hR
  refine Plan.call (vs := [AG [(32, fun q => VU .u8 (oncePriv3 q))], AG [(32, fun q => VU .u8 (offerKey7 q))]]) rfl FAgreeIsMade.call8 rfl (curve_Shared_ok (iG0 := iG0 + 16) hG0 hr41 h39) ?_
  rintro _ w44 ⟨rfl, h44⟩
  refine ⟨_, rfl, .inr ⟨rfl, ?_⟩⟩
  refine Plan.move_tuple rfl rfl ?_
  refine Plan.extract_agg rfl rfl rfl ?_
  refine Plan.extract_int rfl rfl rfl ?_
  refine Plan.alloc h44 rfl FAgreeIsMade.z23 PIn.nil fun b45 w45 hb45 h45 => ?_
  simp only [rngs, Nat.zero_add, Nat.reduceAdd, List.cons_append, List.nil_append] at h45
  refine Plan.storeA (f' := fun q => VU .u8 (x_42 q)) h45 0 rfl rfl rfl rfl (fun _ _ => rfl) FAgreeIsMade.sz23 rfl fun w46 h46 => ?_
  simp only [List.cons_append, List.nil_append, List.set_cons_zero, List.set_cons_succ] at h46
  refine Plan.assign_int rfl rfl ?_
  refine Plan.nil ?_
  refine hK40 _ _ ?_; clear hK40
  refine W.seq_k fun K47 hK47 => ?_
  refine W.seq_k fun K55 hK55 => ?_
  refine W.regionT [(0, true), (1, true), (2, true), (3, true), (4, true), (5, true), (6, true), (7, true), (8, true), (9, true)] (by kernel_rfl) ?_
  refine Plan.move_int rfl rfl ?_
  by_cases hc56 : x_29 ≠ 0
  ·
    replace hR := ifT hR hc56
    refine Plan.cmpV (a := (((x_29 : Nat) : Int) : Int)) (b := (0 : Int)) (p := x_29 ≠ 0) (v := true) rfl rfl rfl rfl icmp_neN (decide_eq_true hc56) ?_
    refine Plan.move_bool rfl rfl ?_
    refine Plan.passed rfl ?_
    refine Plan.passed rfl ?_
    refine Plan.pickTb rfl rfl rfl ?_
    refine Plan.move_bool rfl rfl ?_
    refine Plan.passed rfl ?_
    refine Plan.passed rfl ?_
    refine Plan.pickTb rfl rfl rfl ?_
    refine Plan.nil ?_
    refine hK55 _ _ ?_; clear hK55
    refine W.condT rfl ?_
    refine W.seq_k fun K57 hK57 => ?_
    refine W.regionT [(0, true), (1, true), (2, true), (3, true)] (by kernel_rfl) ?_
    refine Plan.loadA h46 rfl rfl (.cons 3 rfl (.cons 4 rfl (.cons 5 rfl (.cons 6 rfl (.cons 7 rfl (.cons 8 rfl (.cons 9 rfl .nil))))))) FAgreeIsMade.agg35 ?_
    refine Plan.buildP (ps := [(32, fun q => VU .u8 ((fun _ => 0#8) q)), (16, fun q => VU .u8 ((fun _ => 0#8) q)), (64, fun q => VU .u8 ((fun _ => 0#8) q)), (32, fun q => VU .u8 ((fun _ => 0#8) q)), (32, fun q => VU .u8 ((fun _ => 0#8) q)), (1, fun _ => VU .u32 (0#32)), (1, fun _ => VN 70)]) FAgreeIsMade.pl35 (by decide) FAgreeIsMade.z35 rfl rfl (.one [(32, fun q => VU .u8 ((fun _ => 0#8) q)), (16, fun q => VU .u8 ((fun _ => 0#8) q)), (64, fun q => VU .u8 ((fun _ => 0#8) q)), (32, fun q => VU .u8 ((fun _ => 0#8) q)), (32, fun q => VU .u8 ((fun _ => 0#8) q)), (1, fun _ => VU .u32 (0#32))] [] (fun _ => VN 0) rfl rfl .nil) ?_
    refine Plan.eqStrV' (c := ((eqB 32 x_16 (fun _ => 0#8)) && ((eqB 16 x_17 (fun _ => 0#8)) && ((eqB 64 x_18 (fun _ => 0#8)) && (((eqB 32 x_19 (fun _ => 0#8)) && ((eqB 32 x_20 (fun _ => 0#8)) && ((decide (x_21 = 0#32)) && true))) && ((decide ((x_22 : Nat) = 70)) && true)))))) FAgreeIsMade.eqg35 rfl rfl rfl (EqV.struct (d := 9999) (l := [(23, 0), (30, 32), (31, 48), (33, 112), (3, 177)]) FAgreeIsMade.flds35 (.agg [] [(32, fun q => VU .u8 (x_16 q))] [(16, fun q => VU .u8 (x_17 q)), (64, fun q => VU .u8 (x_18 q)), (32, fun q => VU .u8 (x_19 q)), (32, fun q => VU .u8 (x_20 q)), (1, fun _ => VU .u32 x_21), (1, fun _ => VN x_22)] [] [(32, fun q => VU .u8 ((fun _ => 0#8) q))] [(16, fun q => VU .u8 ((fun _ => 0#8) q)), (64, fun q => VU .u8 ((fun _ => 0#8) q)), (32, fun q => VU .u8 ((fun _ => 0#8) q)), (32, fun q => VU .u8 ((fun _ => 0#8) q)), (1, fun _ => VU .u32 (0#32)), (1, fun _ => VN 70)] rfl rfl rfl rfl FAgreeIsMade.agg23 FAgreeIsMade.agg23 (EqV.arr (d := 9997) (F := x_16) (G := (fun _ => 0#8)) FAgreeIsMade.arrI23) (.agg [(32, fun q => VU .u8 (x_16 q))] [(16, fun q => VU .u8 (x_17 q))] [(64, fun q => VU .u8 (x_18 q)), (32, fun q => VU .u8 (x_19 q)), (32, fun q => VU .u8 (x_20 q)), (1, fun _ => VU .u32 x_21), (1, fun _ => VN x_22)] [(32, fun q => VU .u8 ((fun _ => 0#8) q))] [(16, fun q => VU .u8 ((fun _ => 0#8) q))] [(64, fun q => VU .u8 ((fun _ => 0#8) q)), (32, fun q => VU .u8 ((fun _ => 0#8) q)), (32, fun q => VU .u8 ((fun _ => 0#8) q)), (1, fun _ => VU .u32 (0#32)), (1, fun _ => VN 70)] rfl rfl rfl rfl FAgreeIsMade.agg30 FAgreeIsMade.agg30 (EqV.arr (d := 9997) (F := x_17) (G := (fun _ => 0#8)) FAgreeIsMade.arrI30) (.agg [(32, fun q => VU .u8 (x_16 q)), (16, fun q => VU .u8 (x_17 q))] [(64, fun q => VU .u8 (x_18 q))] [(32, fun q => VU .u8 (x_19 q)), (32, fun q => VU .u8 (x_20 q)), (1, fun _ => VU .u32 x_21), (1, fun _ => VN x_22)] [(32, fun q => VU .u8 ((fun _ => 0#8) q)), (16, fun q => VU .u8 ((fun _ => 0#8) q))] [(64, fun q => VU .u8 ((fun _ => 0#8) q))] [(32, fun q => VU .u8 ((fun _ => 0#8) q)), (32, fun q => VU .u8 ((fun _ => 0#8) q)), (1, fun _ => VU .u32 (0#32)), (1, fun _ => VN 70)] rfl rfl rfl rfl FAgreeIsMade.agg31 FAgreeIsMade.agg31 (EqV.arr (d := 9997) (F := x_18) (G := (fun _ => 0#8)) FAgreeIsMade.arrI31) (.agg [(32, fun q => VU .u8 (x_16 q)), (16, fun q => VU .u8 (x_17 q)), (64, fun q => VU .u8 (x_18 q))] [(32, fun q => VU .u8 (x_19 q)), (32, fun q => VU .u8 (x_20 q)), (1, fun _ => VU .u32 x_21)] [(1, fun _ => VN x_22)] [(32, fun q => VU .u8 ((fun _ => 0#8) q)), (16, fun q => VU .u8 ((fun _ => 0#8) q)), (64, fun q => VU .u8 ((fun _ => 0#8) q))] [(32, fun q => VU .u8 ((fun _ => 0#8) q)), (32, fun q => VU .u8 ((fun _ => 0#8) q)), (1, fun _ => VU .u32 (0#32))] [(1, fun _ => VN 70)] rfl rfl rfl rfl FAgreeIsMade.agg33 FAgreeIsMade.agg33 (EqV.struct (d := 9998) (l := [(23, 0), (23, 32), (26, 64)]) FAgreeIsMade.flds33 (.agg [] [(32, fun q => VU .u8 (x_19 q))] [(32, fun q => VU .u8 (x_20 q)), (1, fun _ => VU .u32 x_21)] [] [(32, fun q => VU .u8 ((fun _ => 0#8) q))] [(32, fun q => VU .u8 ((fun _ => 0#8) q)), (1, fun _ => VU .u32 (0#32))] rfl rfl rfl rfl FAgreeIsMade.agg23 FAgreeIsMade.agg23 (EqV.arr (d := 9996) (F := x_19) (G := (fun _ => 0#8)) FAgreeIsMade.arrI23) (.agg [(32, fun q => VU .u8 (x_19 q))] [(32, fun q => VU .u8 (x_20 q))] [(1, fun _ => VU .u32 x_21)] [(32, fun q => VU .u8 ((fun _ => 0#8) q))] [(32, fun q => VU .u8 ((fun _ => 0#8) q))] [(1, fun _ => VU .u32 (0#32))] rfl rfl rfl rfl FAgreeIsMade.agg23 FAgreeIsMade.agg23 (EqV.arr (d := 9996) (F := x_20) (G := (fun _ => 0#8)) FAgreeIsMade.arrI23) (.one [(32, fun q => VU .u8 (x_19 q)), (32, fun q => VU .u8 (x_20 q))] [] [(32, fun q => VU .u8 ((fun _ => 0#8) q)), (32, fun q => VU .u8 ((fun _ => 0#8) q))] [] (fun _ => VU .u32 x_21) (fun _ => VU .u32 (0#32)) rfl rfl rfl rfl FAgreeIsMade.sc26 rfl rfl (EqV.u (d := 9997) (a := x_21) (b := (0#32)) FAgreeIsMade.int26) .nil)))) (.one [(32, fun q => VU .u8 (x_16 q)), (16, fun q => VU .u8 (x_17 q)), (64, fun q => VU .u8 (x_18 q)), (32, fun q => VU .u8 (x_19 q)), (32, fun q => VU .u8 (x_20 q)), (1, fun _ => VU .u32 x_21)] [] [(32, fun q => VU .u8 ((fun _ => 0#8) q)), (16, fun q => VU .u8 ((fun _ => 0#8) q)), (64, fun q => VU .u8 ((fun _ => 0#8) q)), (32, fun q => VU .u8 ((fun _ => 0#8) q)), (32, fun q => VU .u8 ((fun _ => 0#8) q)), (1, fun _ => VU .u32 (0#32))] [] (fun _ => VN x_22) (fun _ => VN 70) rfl rfl rfl rfl FAgreeIsMade.sc3 rfl rfl (EqV.nat (d := 9998) (a := x_22) (b := 70) FAgreeIsMade.int3) .nil)))))) rfl ?_
    refine Plan.assign_bool rfl rfl ?_
    refine Plan.nil ?_
    refine hK57 _ _ ?_; clear hK57
    refine W.ret (thenR_ret (finR_ret ?_))
    have h58 := St.pickT (C := [_, _, _, _, _, _, _, _, _, _, _, _, _, _, _, _, _]) h46 [] (by decide)
    simp only [pick, List.filterMap_cons, List.filterMap_nil, List.getElem?_cons_zero, List.getElem?_cons_succ, List.cons_append, List.nil_append] at h58
    subst r
    refine RetOk.mk (.tmp_bool rfl .nil) ?_
    exact ⟨rfl, h58⟩
  ·
    replace hR := ifF hR hc56
    refine Plan.cmpV (a := (((x_29 : Nat) : Int) : Int)) (b := (0 : Int)) (p := x_29 ≠ 0) (v := false) rfl rfl rfl rfl icmp_neN (decide_eq_false hc56) ?_
    refine Plan.move_bool rfl rfl ?_
    refine Plan.move_int rfl rfl ?_
    by_cases hc59 : x_36 ≠ 0
    ·
      replace hR := ifT hR hc59
      refine Plan.cmpV (a := (((x_36 : Nat) : Int) : Int)) (b := (0 : Int)) (p := x_36 ≠ 0) (v := true) rfl rfl rfl rfl icmp_neN (decide_eq_true hc59) ?_
      refine Plan.pickFb rfl rfl rfl ?_
      refine Plan.move_bool rfl rfl ?_
      refine Plan.passed rfl ?_
      refine Plan.passed rfl ?_
      refine Plan.pickTb rfl rfl rfl ?_
      refine Plan.nil ?_
      refine hK55 _ _ ?_; clear hK55
      refine W.condT rfl ?_
      refine W.seq_k fun K60 hK60 => ?_
      refine W.regionT [(0, true), (1, true), (2, true), (3, true)] (by kernel_rfl) ?_
      refine Plan.loadA h46 rfl rfl (.cons 3 rfl (.cons 4 rfl (.cons 5 rfl (.cons 6 rfl (.cons 7 rfl (.cons 8 rfl (.cons 9 rfl .nil))))))) FAgreeIsMade.agg35 ?_
      refine Plan.buildP (ps := [(32, fun q => VU .u8 ((fun _ => 0#8) q)), (16, fun q => VU .u8 ((fun _ => 0#8) q)), (64, fun q => VU .u8 ((fun _ => 0#8) q)), (32, fun q => VU .u8 ((fun _ => 0#8) q)), (32, fun q => VU .u8 ((fun _ => 0#8) q)), (1, fun _ => VU .u32 (0#32)), (1, fun _ => VN 70)]) FAgreeIsMade.pl35 (by decide) FAgreeIsMade.z35 rfl rfl (.one [(32, fun q => VU .u8 ((fun _ => 0#8) q)), (16, fun q => VU .u8 ((fun _ => 0#8) q)), (64, fun q => VU .u8 ((fun _ => 0#8) q)), (32, fun q => VU .u8 ((fun _ => 0#8) q)), (32, fun q => VU .u8 ((fun _ => 0#8) q)), (1, fun _ => VU .u32 (0#32))] [] (fun _ => VN 0) rfl rfl .nil) ?_
      refine Plan.eqStrV' (c := ((eqB 32 x_16 (fun _ => 0#8)) && ((eqB 16 x_17 (fun _ => 0#8)) && ((eqB 64 x_18 (fun _ => 0#8)) && (((eqB 32 x_19 (fun _ => 0#8)) && ((eqB 32 x_20 (fun _ => 0#8)) && ((decide (x_21 = 0#32)) && true))) && ((decide ((x_22 : Nat) = 70)) && true)))))) FAgreeIsMade.eqg35 rfl rfl rfl (EqV.struct (d := 9999) (l := [(23, 0), (30, 32), (31, 48), (33, 112), (3, 177)]) FAgreeIsMade.flds35 (.agg [] [(32, fun q => VU .u8 (x_16 q))] [(16, fun q => VU .u8 (x_17 q)), (64, fun q => VU .u8 (x_18 q)), (32, fun q => VU .u8 (x_19 q)), (32, fun q => VU .u8 (x_20 q)), (1, fun _ => VU .u32 x_21), (1, fun _ => VN x_22)] [] [(32, fun q => VU .u8 ((fun _ => 0#8) q))] [(16, fun q => VU .u8 ((fun _ => 0#8) q)), (64, fun q => VU .u8 ((fun _ => 0#8) q)), (32, fun q => VU .u8 ((fun _ => 0#8) q)), (32, fun q => VU .u8 ((fun _ => 0#8) q)), (1, fun _ => VU .u32 (0#32)), (1, fun _ => VN 70)] rfl rfl rfl rfl FAgreeIsMade.agg23 FAgreeIsMade.agg23 (EqV.arr (d := 9997) (F := x_16) (G := (fun _ => 0#8)) FAgreeIsMade.arrI23) (.agg [(32, fun q => VU .u8 (x_16 q))] [(16, fun q => VU .u8 (x_17 q))] [(64, fun q => VU .u8 (x_18 q)), (32, fun q => VU .u8 (x_19 q)), (32, fun q => VU .u8 (x_20 q)), (1, fun _ => VU .u32 x_21), (1, fun _ => VN x_22)] [(32, fun q => VU .u8 ((fun _ => 0#8) q))] [(16, fun q => VU .u8 ((fun _ => 0#8) q))] [(64, fun q => VU .u8 ((fun _ => 0#8) q)), (32, fun q => VU .u8 ((fun _ => 0#8) q)), (32, fun q => VU .u8 ((fun _ => 0#8) q)), (1, fun _ => VU .u32 (0#32)), (1, fun _ => VN 70)] rfl rfl rfl rfl FAgreeIsMade.agg30 FAgreeIsMade.agg30 (EqV.arr (d := 9997) (F := x_17) (G := (fun _ => 0#8)) FAgreeIsMade.arrI30) (.agg [(32, fun q => VU .u8 (x_16 q)), (16, fun q => VU .u8 (x_17 q))] [(64, fun q => VU .u8 (x_18 q))] [(32, fun q => VU .u8 (x_19 q)), (32, fun q => VU .u8 (x_20 q)), (1, fun _ => VU .u32 x_21), (1, fun _ => VN x_22)] [(32, fun q => VU .u8 ((fun _ => 0#8) q)), (16, fun q => VU .u8 ((fun _ => 0#8) q))] [(64, fun q => VU .u8 ((fun _ => 0#8) q))] [(32, fun q => VU .u8 ((fun _ => 0#8) q)), (32, fun q => VU .u8 ((fun _ => 0#8) q)), (1, fun _ => VU .u32 (0#32)), (1, fun _ => VN 70)] rfl rfl rfl rfl FAgreeIsMade.agg31 FAgreeIsMade.agg31 (EqV.arr (d := 9997) (F := x_18) (G := (fun _ => 0#8)) FAgreeIsMade.arrI31) (.agg [(32, fun q => VU .u8 (x_16 q)), (16, fun q => VU .u8 (x_17 q)), (64, fun q => VU .u8 (x_18 q))] [(32, fun q => VU .u8 (x_19 q)), (32, fun q => VU .u8 (x_20 q)), (1, fun _ => VU .u32 x_21)] [(1, fun _ => VN x_22)] [(32, fun q => VU .u8 ((fun _ => 0#8) q)), (16, fun q => VU .u8 ((fun _ => 0#8) q)), (64, fun q => VU .u8 ((fun _ => 0#8) q))] [(32, fun q => VU .u8 ((fun _ => 0#8) q)), (32, fun q => VU .u8 ((fun _ => 0#8) q)), (1, fun _ => VU .u32 (0#32))] [(1, fun _ => VN 70)] rfl rfl rfl rfl FAgreeIsMade.agg33 FAgreeIsMade.agg33 (EqV.struct (d := 9998) (l := [(23, 0), (23, 32), (26, 64)]) FAgreeIsMade.flds33 (.agg [] [(32, fun q => VU .u8 (x_19 q))] [(32, fun q => VU .u8 (x_20 q)), (1, fun _ => VU .u32 x_21)] [] [(32, fun q => VU .u8 ((fun _ => 0#8) q))] [(32, fun q => VU .u8 ((fun _ => 0#8) q)), (1, fun _ => VU .u32 (0#32))] rfl rfl rfl rfl FAgreeIsMade.agg23 FAgreeIsMade.agg23 (EqV.arr (d := 9996) (F := x_19) (G := (fun _ => 0#8)) FAgreeIsMade.arrI23) (.agg [(32, fun q => VU .u8 (x_19 q))] [(32, fun q => VU .u8 (x_20 q))] [(1, fun _ => VU .u32 x_21)] [(32, fun q => VU .u8 ((fun _ => 0#8) q))] [(32, fun q => VU .u8 ((fun _ => 0#8) q))] [(1, fun _ => VU .u32 (0#32))] rfl rfl rfl rfl FAgreeIsMade.agg23 FAgreeIsMade.agg23 (EqV.arr (d := 9996) (F := x_20) (G := (fun _ => 0#8)) FAgreeIsMade.arrI23) (.one [(32, fun q => VU .u8 (x_19 q)), (32, fun q => VU .u8 (x_20 q))] [] [(32, fun q => VU .u8 ((fun _ => 0#8) q)), (32, fun q => VU .u8 ((fun _ => 0#8) q))] [] (fun _ => VU .u32 x_21) (fun _ => VU .u32 (0#32)) rfl rfl rfl rfl FAgreeIsMade.sc26 rfl rfl (EqV.u (d := 9997) (a := x_21) (b := (0#32)) FAgreeIsMade.int26) .nil)))) (.one [(32, fun q => VU .u8 (x_16 q)), (16, fun q => VU .u8 (x_17 q)), (64, fun q => VU .u8 (x_18 q)), (32, fun q => VU .u8 (x_19 q)), (32, fun q => VU .u8 (x_20 q)), (1, fun _ => VU .u32 x_21)] [] [(32, fun q => VU .u8 ((fun _ => 0#8) q)), (16, fun q => VU .u8 ((fun _ => 0#8) q)), (64, fun q => VU .u8 ((fun _ => 0#8) q)), (32, fun q => VU .u8 ((fun _ => 0#8) q)), (32, fun q => VU .u8 ((fun _ => 0#8) q)), (1, fun _ => VU .u32 (0#32))] [] (fun _ => VN x_22) (fun _ => VN 70) rfl rfl rfl rfl FAgreeIsMade.sc3 rfl rfl (EqV.nat (d := 9998) (a := x_22) (b := 70) FAgreeIsMade.int3) .nil)))))) rfl ?_
      refine Plan.assign_bool rfl rfl ?_
      refine Plan.nil ?_
      refine hK60 _ _ ?_; clear hK60
      refine W.ret (thenR_ret (finR_ret ?_))
      have h61 := St.pickT (C := [_, _, _, _, _, _, _, _, _, _, _, _, _, _, _, _, _]) h46 [] (by decide)
      simp only [pick, List.filterMap_cons, List.filterMap_nil, List.getElem?_cons_zero, List.getElem?_cons_succ, List.cons_append, List.nil_append] at h61
      subst r
      refine RetOk.mk (.tmp_bool rfl .nil) ?_
      exact ⟨rfl, h61⟩
    ·
      replace hR := ifF hR hc59
      refine Plan.cmpV (a := (((x_36 : Nat) : Int) : Int)) (b := (0 : Int)) (p := x_36 ≠ 0) (v := false) rfl rfl rfl rfl icmp_neN (decide_eq_false hc59) ?_
      refine Plan.pickFb rfl rfl rfl ?_
      refine Plan.move_bool rfl rfl ?_
      refine Plan.move_int rfl rfl ?_
      refine Plan.cmpP (a := (((x_43 : Nat) : Int) : Int)) (b := (0 : Int)) (p := x_43 ≠ 0) rfl rfl rfl rfl icmp_neN ?_
      refine Plan.pickFb rfl rfl rfl ?_
      refine Plan.nil ?_
      refine hK55 _ _ ?_; clear hK55
      by_cases hc62 : x_43 ≠ 0
      ·
        replace hR := ifT hR hc62
        refine W.condT (congrArg Value.bool (decide_eq_true hc62)) ?_
        refine W.seq_k fun K63 hK63 => ?_
        refine W.regionT [(0, true), (1, true), (2, true), (3, true)] (by kernel_rfl) ?_
        refine Plan.loadA h46 rfl rfl (.cons 3 rfl (.cons 4 rfl (.cons 5 rfl (.cons 6 rfl (.cons 7 rfl (.cons 8 rfl (.cons 9 rfl .nil))))))) FAgreeIsMade.agg35 ?_
        refine Plan.buildP (ps := [(32, fun q => VU .u8 ((fun _ => 0#8) q)), (16, fun q => VU .u8 ((fun _ => 0#8) q)), (64, fun q => VU .u8 ((fun _ => 0#8) q)), (32, fun q => VU .u8 ((fun _ => 0#8) q)), (32, fun q => VU .u8 ((fun _ => 0#8) q)), (1, fun _ => VU .u32 (0#32)), (1, fun _ => VN 70)]) FAgreeIsMade.pl35 (by decide) FAgreeIsMade.z35 rfl rfl (.one [(32, fun q => VU .u8 ((fun _ => 0#8) q)), (16, fun q => VU .u8 ((fun _ => 0#8) q)), (64, fun q => VU .u8 ((fun _ => 0#8) q)), (32, fun q => VU .u8 ((fun _ => 0#8) q)), (32, fun q => VU .u8 ((fun _ => 0#8) q)), (1, fun _ => VU .u32 (0#32))] [] (fun _ => VN 0) rfl rfl .nil) ?_
        refine Plan.eqStrV' (c := ((eqB 32 x_16 (fun _ => 0#8)) && ((eqB 16 x_17 (fun _ => 0#8)) && ((eqB 64 x_18 (fun _ => 0#8)) && (((eqB 32 x_19 (fun _ => 0#8)) && ((eqB 32 x_20 (fun _ => 0#8)) && ((decide (x_21 = 0#32)) && true))) && ((decide ((x_22 : Nat) = 70)) && true)))))) FAgreeIsMade.eqg35 rfl rfl rfl (EqV.struct (d := 9999) (l := [(23, 0), (30, 32), (31, 48), (33, 112), (3, 177)]) FAgreeIsMade.flds35 (.agg [] [(32, fun q => VU .u8 (x_16 q))] [(16, fun q => VU .u8 (x_17 q)), (64, fun q => VU .u8 (x_18 q)), (32, fun q => VU .u8 (x_19 q)), (32, fun q => VU .u8 (x_20 q)), (1, fun _ => VU .u32 x_21), (1, fun _ => VN x_22)] [] [(32, fun q => VU .u8 ((fun _ => 0#8) q))] [(16, fun q => VU .u8 ((fun _ => 0#8) q)), (64, fun q => VU .u8 ((fun _ => 0#8) q)), (32, fun q => VU .u8 ((fun _ => 0#8) q)), (32, fun q => VU .u8 ((fun _ => 0#8) q)), (1, fun _ => VU .u32 (0#32)), (1, fun _ => VN 70)] rfl rfl rfl rfl FAgreeIsMade.agg23 FAgreeIsMade.agg23 (EqV.arr (d := 9997) (F := x_16) (G := (fun _ => 0#8)) FAgreeIsMade.arrI23) (.agg [(32, fun q => VU .u8 (x_16 q))] [(16, fun q => VU .u8 (x_17 q))] [(64, fun q => VU .u8 (x_18 q)), (32, fun q => VU .u8 (x_19 q)), (32, fun q => VU .u8 (x_20 q)), (1, fun _ => VU .u32 x_21), (1, fun _ => VN x_22)] [(32, fun q => VU .u8 ((fun _ => 0#8) q))] [(16, fun q => VU .u8 ((fun _ => 0#8) q))] [(64, fun q => VU .u8 ((fun _ => 0#8) q)), (32, fun q => VU .u8 ((fun _ => 0#8) q)), (32, fun q => VU .u8 ((fun _ => 0#8) q)), (1, fun _ => VU .u32 (0#32)), (1, fun _ => VN 70)] rfl rfl rfl rfl FAgreeIsMade.agg30 FAgreeIsMade.agg30 (EqV.arr (d := 9997) (F := x_17) (G := (fun _ => 0#8)) FAgreeIsMade.arrI30) (.agg [(32, fun q => VU .u8 (x_16 q)), (16, fun q => VU .u8 (x_17 q))] [(64, fun q => VU .u8 (x_18 q))] [(32, fun q => VU .u8 (x_19 q)), (32, fun q => VU .u8 (x_20 q)), (1, fun _ => VU .u32 x_21), (1, fun _ => VN x_22)] [(32, fun q => VU .u8 ((fun _ => 0#8) q)), (16, fun q => VU .u8 ((fun _ => 0#8) q))] [(64, fun q => VU .u8 ((fun _ => 0#8) q))] [(32, fun q => VU .u8 ((fun _ => 0#8) q)), (32, fun q => VU .u8 ((fun _ => 0#8) q)), (1, fun _ => VU .u32 (0#32)), (1, fun _ => VN 70)] rfl rfl rfl rfl FAgreeIsMade.agg31 FAgreeIsMade.agg31 (EqV.arr (d := 9997) (F := x_18) (G := (fun _ => 0#8)) FAgreeIsMade.arrI31) (.agg [(32, fun q => VU .u8 (x_16 q)), (16, fun q => VU .u8 (x_17 q)), (64, fun q => VU .u8 (x_18 q))] [(32, fun q => VU .u8 (x_19 q)), (32, fun q => VU .u8 (x_20 q)), (1, fun _ => VU .u32 x_21)] [(1, fun _ => VN x_22)] [(32, fun q => VU .u8 ((fun _ => 0#8) q)), (16, fun q => VU .u8 ((fun _ => 0#8) q)), (64, fun q => VU .u8 ((fun _ => 0#8) q))] [(32, fun q => VU .u8 ((fun _ => 0#8) q)), (32, fun q => VU .u8 ((fun _ => 0#8) q)), (1, fun _ => VU .u32 (0#32))] [(1, fun _ => VN 70)] rfl rfl rfl rfl FAgreeIsMade.agg33 FAgreeIsMade.agg33 (EqV.struct (d := 9998) (l := [(23, 0), (23, 32), (26, 64)]) FAgreeIsMade.flds33 (.agg [] [(32, fun q => VU .u8 (x_19 q))] [(32, fun q => VU .u8 (x_20 q)), (1, fun _ => VU .u32 x_21)] [] [(32, fun q => VU .u8 ((fun _ => 0#8) q))] [(32, fun q => VU .u8 ((fun _ => 0#8) q)), (1, fun _ => VU .u32 (0#32))] rfl rfl rfl rfl FAgreeIsMade.agg23 FAgreeIsMade.agg23 (EqV.arr (d := 9996) (F := x_19) (G := (fun _ => 0#8)) FAgreeIsMade.arrI23) (.agg [(32, fun q => VU .u8 (x_19 q))] [(32, fun q => VU .u8 (x_20 q))] [(1, fun _ => VU .u32 x_21)] [(32, fun q => VU .u8 ((fun _ => 0#8) q))] [(32, fun q => VU .u8 ((fun _ => 0#8) q))] [(1, fun _ => VU .u32 (0#32))] rfl rfl rfl rfl FAgreeIsMade.agg23 FAgreeIsMade.agg23 (EqV.arr (d := 9996) (F := x_20) (G := (fun _ => 0#8)) FAgreeIsMade.arrI23) (.one [(32, fun q => VU .u8 (x_19 q)), (32, fun q => VU .u8 (x_20 q))] [] [(32, fun q => VU .u8 ((fun _ => 0#8) q)), (32, fun q => VU .u8 ((fun _ => 0#8) q))] [] (fun _ => VU .u32 x_21) (fun _ => VU .u32 (0#32)) rfl rfl rfl rfl FAgreeIsMade.sc26 rfl rfl (EqV.u (d := 9997) (a := x_21) (b := (0#32)) FAgreeIsMade.int26) .nil)))) (.one [(32, fun q => VU .u8 (x_16 q)), (16, fun q => VU .u8 (x_17 q)), (64, fun q => VU .u8 (x_18 q)), (32, fun q => VU .u8 (x_19 q)), (32, fun q => VU .u8 (x_20 q)), (1, fun _ => VU .u32 x_21)] [] [(32, fun q => VU .u8 ((fun _ => 0#8) q)), (16, fun q => VU .u8 ((fun _ => 0#8) q)), (64, fun q => VU .u8 ((fun _ => 0#8) q)), (32, fun q => VU .u8 ((fun _ => 0#8) q)), (32, fun q => VU .u8 ((fun _ => 0#8) q)), (1, fun _ => VU .u32 (0#32))] [] (fun _ => VN x_22) (fun _ => VN 70) rfl rfl rfl rfl FAgreeIsMade.sc3 rfl rfl (EqV.nat (d := 9998) (a := x_22) (b := 70) FAgreeIsMade.int3) .nil)))))) rfl ?_
        refine Plan.assign_bool rfl rfl ?_
        refine Plan.nil ?_
        refine hK63 _ _ ?_; clear hK63
        refine W.ret (thenR_ret (finR_ret ?_))
        have h64 := St.pickT (C := [_, _, _, _, _, _, _, _, _, _, _, _, _, _, _, _, _]) h46 [] (by decide)
        simp only [pick, List.filterMap_cons, List.filterMap_nil, List.getElem?_cons_zero, List.getElem?_cons_succ, List.cons_append, List.nil_append] at h64
        subst r
        refine RetOk.mk (.tmp_bool rfl .nil) ?_
        exact ⟨rfl, h64⟩
      ·
        replace hR := ifF hR hc62
        refine W.condF (congrArg Value.bool (decide_eq_false hc62)) ?_
        refine W.skip ?_
        refine hK47 _ _ ?_; clear hK47
        refine W.seq_k fun K65 hK65 => ?_
        refine W.regionT [(0, false), (1, true)] (by kernel_rfl) ?_
        refine Plan.makeO (len := 32) (c := 32) h46 FAgreeIsMade.el40 rfl rfl rfl (by omega) (by omega) (fun _ => EffO.keep PIn.nil) fun b66 w66 hb66 ho66 h66 => ?_
        refine Plan.assign_slice rfl rfl ?_
        refine Plan.nil ?_
        refine hK65 _ _ ?_; clear hK65
        refine W.seq_k fun K67 hK67 => ?_
        refine W.seq_k fun K68 hK68 => ?_
        refine W.regionT [(0, true)] (by kernel_rfl) ?_
        refine Plan.assign_int rfl rfl ?_
        refine Plan.nil ?_
        refine hK68 _ _ ?_; clear hK68
        obtain ⟨in_86, hI87, hR087⟩ := hR
        refine W.cutN (fun e w => ∃ y_in_86 : List Byte, in_86 = y_in_86 ∧ ∃ ain_86 : Option Addr, ∃ pin_86 : Option Nat, ∃ cin_86 : Nat, ∃ Fin_86 : Nat → Byte, EnvHas e [(3, .pointer (some ⟨b9, 0, none⟩)), (4, .pointer (some ⟨b10, 0, none⟩)), (5, .pointer (some ⟨b11, 0, none⟩)), (7, .pointer (some ⟨b24, 0, none⟩)), (8, .pointer (some ⟨b31, 0, none⟩)), (10, .pointer (some ⟨b38, 0, none⟩)), (12, .pointer (some ⟨b45, 0, none⟩)), (14, .slice ain_86 ((List.replicate 32 0#8).length) cin_86)] ∧ St B w0 (⟨pin_86, 0, cin_86, fun q => VU .u8 (Fin_86 q), true⟩ :: ⟨some b45, 0, 32, fun q => VU .u8 (x_42 q), true⟩ :: ⟨some b38, 0, 32, fun q => VU .u8 (x_35 q), true⟩ :: ⟨some b31, 0, 32, fun q => VU .u8 (x_28 q), true⟩ :: ⟨some b24, 0, 32, fun q => VU .u8 (x_16 q), true⟩ :: ⟨some b24, 32, 16, fun q => VU .u8 (x_17 q), true⟩ :: ⟨some b24, 48, 64, fun q => VU .u8 (x_18 q), true⟩ :: ⟨some b24, 112, 32, fun q => VU .u8 (x_19 q), true⟩ :: ⟨some b24, 144, 32, fun q => VU .u8 (x_20 q), true⟩ :: ⟨some b24, 176, 1, fun _ => VU .u32 x_21, true⟩ :: ⟨some b24, 177, 1, fun _ => VN x_22, true⟩ :: ⟨some b11, 0, 32, fun q => VU .u8 (offerIdentity5 q), true⟩ :: ⟨some b11, 32, 1, fun _ => VU .u32 (offerPrekey6 ||| (1#32)), true⟩ :: ⟨some b11, 33, 32, fun q => VU .u8 (offerKey7 q), true⟩ :: ⟨some b10, 0, 32, fun q => VU .u8 (oncePriv3 q), true⟩ :: ⟨some b10, 32, 32, fun q => VU .u8 (oncePub4 q), true⟩ :: ⟨some b9, 0, 32, fun q => VU .u8 (ownPriv1 q), true⟩ :: ⟨some b9, 32, 32, fun q => VU .u8 (ownPub2 q), true⟩ :: L) w ∧ Ow ain_86 pin_86 ((List.replicate 32 0#8).length) cin_86 Fin_86 y_in_86) ?_ ?_
        ·
          refine W.block ?_
          refine W.iter hI87 (fun (s87 : ((List Byte) × Nat)) e w => ∃ ain_84 : Option Addr, ∃ pin_84 : Option Nat, ∃ cin_84 : Nat, ∃ Fin_84 : Nat → Byte, EnvHas e [(3, .pointer (some ⟨b9, 0, none⟩)), (4, .pointer (some ⟨b10, 0, none⟩)), (5, .pointer (some ⟨b11, 0, none⟩)), (7, .pointer (some ⟨b24, 0, none⟩)), (8, .pointer (some ⟨b31, 0, none⟩)), (10, .pointer (some ⟨b38, 0, none⟩)), (12, .pointer (some ⟨b45, 0, none⟩)), (14, .slice ain_84 ((List.replicate 32 0#8).length) cin_84), (15, VN s87.2)] ∧ St B w0 (⟨pin_84, 0, cin_84, fun q => VU .u8 (Fin_84 q), true⟩ :: ⟨some b45, 0, 32, fun q => VU .u8 (x_42 q), true⟩ :: ⟨some b38, 0, 32, fun q => VU .u8 (x_35 q), true⟩ :: ⟨some b31, 0, 32, fun q => VU .u8 (x_28 q), true⟩ :: ⟨some b24, 0, 32, fun q => VU .u8 (x_16 q), true⟩ :: ⟨some b24, 32, 16, fun q => VU .u8 (x_17 q), true⟩ :: ⟨some b24, 48, 64, fun q => VU .u8 (x_18 q), true⟩ :: ⟨some b24, 112, 32, fun q => VU .u8 (x_19 q), true⟩ :: ⟨some b24, 144, 32, fun q => VU .u8 (x_20 q), true⟩ :: ⟨some b24, 176, 1, fun _ => VU .u32 x_21, true⟩ :: ⟨some b24, 177, 1, fun _ => VN x_22, true⟩ :: ⟨some b11, 0, 32, fun q => VU .u8 (offerIdentity5 q), true⟩ :: ⟨some b11, 32, 1, fun _ => VU .u32 (offerPrekey6 ||| (1#32)), true⟩ :: ⟨some b11, 33, 32, fun q => VU .u8 (offerKey7 q), true⟩ :: ⟨some b10, 0, 32, fun q => VU .u8 (oncePriv3 q), true⟩ :: ⟨some b10, 32, 32, fun q => VU .u8 (oncePub4 q), true⟩ :: ⟨some b9, 0, 32, fun q => VU .u8 (ownPriv1 q), true⟩ :: ⟨some b9, 32, 32, fun q => VU .u8 (ownPub2 q), true⟩ :: L) w ∧ Ow ain_84 pin_84 ((List.replicate 32 0#8).length) cin_84 Fin_84 s87.1) ⟨some ⟨b66, 0, none⟩, some b66, 32, (fun _ => 0#8), (EnvHas.cons rfl (EnvHas.cons rfl (EnvHas.cons rfl (EnvHas.cons rfl (EnvHas.cons rfl (EnvHas.cons rfl (EnvHas.cons rfl (EnvHas.cons rfl (EnvHas.cons rfl EnvHas.nil))))))))), h66, ho66⟩ ?_
          rintro ⟨in_84, i_85⟩ o87 hR hx87 ev88 wl88 ⟨ain_84, pin_84, cin_84, Fin_84, he88, h88, hin_84⟩
          obtain ⟨ev88, rfl⟩ := he88.open
          unfold lethelaw17_AgreeIsMade_l0 at hR
          refine W.seq_k fun K89 hK89 => ?_
          refine W.seq_k fun K90 hK90 => ?_
          refine W.regionT [(0, true), (1, true)] (by kernel_rfl) ?_
          refine Plan.move_int rfl rfl ?_
          refine Plan.cmpP (a := (((i_85 : Nat) : Int) : Int)) (b := (32 : Int)) (p := i_85 < 32) rfl rfl rfl rfl icmp_ltN ?_
          refine Plan.nil ?_
          refine hK90 _ _ ?_; clear hK90
          by_cases hc91 : i_85 < 32
          ·
            replace hR := ifT hR hc91
            refine W.condT (congrArg Value.bool (decide_eq_true hc91)) ?_
            refine W.skip ?_
            refine hK89 _ _ ?_; clear hK89
            refine W.seq_k fun K92 hK92 => ?_
            refine W.block ?_
            refine W.regionT [(0, true), (1, true), (2, true), (3, false)] (by kernel_rfl) ?_
            refine Plan.move_slice rfl rfl ?_
            refine Plan.move_int rfl rfl ?_
            obtain ⟨hc93, hR⟩ := hR
            refine Plan.idxVS (j := i_85) h88 (hin_84.bx 0 rfl) FAgreeIsMade.sl40 rfl rfl rfl hc93 ?_
            refine Plan.storeO (j := i_85) (Y := 255#8) h88 0 hin_84 rfl rfl rfl rfl hc93 FAgreeIsMade.sz5 rfl fun w94 F94 ho94 h94 => ?_
            simp only [List.cons_append, List.nil_append, List.set_cons_zero, List.set_cons_succ] at h94
            have e94 : (in_84.set i_85 (255#8)).length = in_84.length := List.length_set
            refine Plan.nil ?_
            refine blockR_norm ?_
            refine hK92 _ _ ?_; clear hK92
            refine W.regionT [(0, true), (1, true), (2, true)] (by kernel_rfl) ?_
            refine Plan.move_int rfl rfl ?_
            refine Plan.addN (a := i_85) (b := 1) rfl rfl rfl (by omega) ?_
            refine Plan.assign_int rfl rfl ?_
            refine Plan.nil ?_
            exact iterR_norm ⟨_, hR, ain_84, pin_84, cin_84, F94, (EnvHas.cons rfl (EnvHas.cons rfl (EnvHas.cons rfl (EnvHas.cons rfl (EnvHas.cons rfl (EnvHas.cons rfl (EnvHas.cons rfl (EnvHas.cons rfl (EnvHas.cons rfl EnvHas.nil))))))))), h94, (show Ow _ _ ((List.replicate 32 0#8).length) _ _ _ from ho94)⟩
          ·
            replace hR := ifF hR hc91
            refine W.condF (congrArg Value.bool (decide_eq_false hc91)) ?_
            refine W.exit (thenR_exit (iterR_exit (blockR_here ?_)))
            exact ⟨in_84, (hx87 _ hR).symm, ain_84, pin_84, cin_84, Fin_84, (EnvHas.cons rfl (EnvHas.cons rfl (EnvHas.cons rfl (EnvHas.cons rfl (EnvHas.cons rfl (EnvHas.cons rfl (EnvHas.cons rfl (EnvHas.cons rfl EnvHas.nil)))))))), h88, hin_84⟩
        ·
          rintro ev95 wl95 ⟨y_in_86, hy95, ain_86, pin_86, cin_86, Fin_86, he95, h95, hin_86⟩
          obtain ⟨ev95, rfl⟩ := he95.open
          subst hy95
          replace hR := hR087
          refine hK67 _ _ ?_; clear hK67
          refine W.seq_k fun K96 hK96 => ?_
          refine W.regionD FAgreeIsMade.mixed [(0, true), (1, true), (3, true), (5, true), (2, false), (4, false), (6, false), (7, true)] (by kernel_rfl) ?_
          have h97 := h95.drew
          refine Plan.move_slice rfl rfl ?_
          refine Plan.slArrO (lo := 0) (hi := 32) (m := 32) (c := 32) (o' := 0) FAgreeIsMade.arr23 rfl rfl rfl rfl (by omega) (by omega) (by omega) (by omega) ?_
          refine Plan.slArrO (lo := 0) (hi := 32) (m := 32) (c := 32) (o' := 0) FAgreeIsMade.arr23 rfl rfl rfl rfl (by omega) (by omega) (by omega) (by omega) ?_
          refine Plan.slArrO (lo := 0) (hi := 32) (m := 32) (c := 32) (o' := 0) FAgreeIsMade.arr23 rfl rfl rfl rfl (by omega) (by omega) (by omega) (by omega) ?_
          obtain ⟨hc99, hR⟩ := hR
          refine Plan.appendO (X := in_86) (Y := (dl 32 x_28)) h97 0 hin_86 FAgreeIsMade.el40 FAgreeIsMade.sl40 rfl rfl rfl rfl (Bx.arr0 (n := 32) (cc := 32) 3 rfl (by omega) (by omega)) hc99 (fun _ => EffO.keep PIn.nil) fun a98 pb98 cap98 F98 w98 ho98 h98 => ?_
          simp only [List.cons_append, List.nil_append, List.set_cons_zero, List.set_cons_succ] at h98
          obtain ⟨hc101, hR⟩ := hR
          refine Plan.appendO (X := (in_86 ++ (dl 32 x_28))) (Y := (dl 32 x_35)) h98 0 ho98 FAgreeIsMade.el40 FAgreeIsMade.sl40 rfl rfl rfl rfl (Bx.arr0 (n := 32) (cc := 32) 2 rfl (by omega) (by omega)) hc101 (fun _ => EffO.keep PIn.nil) fun a100 pb100 cap100 F100 w100 ho100 h100 => ?_
          simp only [List.cons_append, List.nil_append, List.set_cons_zero, List.set_cons_succ] at h100
          obtain ⟨hc103, hR⟩ := hR
          refine Plan.appendO (X := ((in_86 ++ (dl 32 x_28)) ++ (dl 32 x_35))) (Y := (dl 32 x_42)) h100 0 ho100 FAgreeIsMade.el40 FAgreeIsMade.sl40 rfl rfl rfl rfl (Bx.arr0 (n := 32) (cc := 32) 1 rfl (by omega) (by omega)) hc103 (fun _ => EffO.keep PIn.nil) fun a102 pb102 cap102 F102 w102 ho102 h102 => ?_
          simp only [List.cons_append, List.nil_append, List.set_cons_zero, List.set_cons_succ] at h102
          refine Plan.assign_slice rfl rfl ?_
          refine Plan.nil ?_
          refine hK96 _ _ ?_; clear hK96
          refine W.seq_k fun K104 hK104 => ?_
          refine W.regionT [(0, false), (1, true), (2, false), (3, false), (4, false), (5, true), (6, true), (7, true), (8, true), (9, true)] (by kernel_rfl) ?_
          refine Plan.makeO (len := 32) (c := 32) h102 FAgreeIsMade.el40 rfl rfl rfl (by omega) (by omega) (fun _ => EffO.keep PIn.nil) fun b105 w105 hb105 ho105 h105 => ?_
          refine Plan.move_slice rfl rfl ?_
          refine Plan.constBytesO PIn.nil h105 (f := fun q => VU .u8 (lit ([108#8, 101#8, 116#8, 104#8, 101#8, 32#8, 102#8, 105#8, 114#8, 115#8, 116#8] : List Byte) q)) FAgreeIsMade.slu40 FAgreeIsMade.u5 FAgreeIsMade.sz5 FAgreeIsMade.zv5 (by decide) (by decide) rfl (fun _ => rfl) (fun _ => rfl) rfl (by kernel_rfl) fun b106 w106 hb106 h106 => ?_
          obtain ⟨x_108, x_109, hr107, hR⟩ := hR
          refine Plan.call (vs := [.slice (some ⟨b105, 0, none⟩) ((List.replicate 32 0#8).length) 32, .slice a102 ((((in_86 ++ (dl 32 x_28)) ++ (dl 32 x_35)) ++ (dl 32 x_42)).length) cap102, .slice (some ⟨b106, 0, none⟩) 11 11, VN 48]) rfl FAgreeIsMade.call9 rfl (kdf_Derive_ok (iG1 := iG1 + 20) hG1 (iG3 := iG3 + 20) hG3 (by exact (ho105.bx 1 rfl)) (by exact (ho102.bx 2 rfl)) (by exact (Bx.arr0 (n := 11) (cc := 11) 0 rfl (by omega) (by omega))) hr107 h106) ?_
          rintro _ w115 ⟨ay0_110, py0_111, ny0_112, cy0_113, Fy0_114, rfl, h115, hf115_0⟩
          try dsimp only at hf115_0
          obtain rfl := hf115_0.hl
          refine ⟨_, rfl, .inl ⟨PIn.keep PIn.nil h115, ?_⟩⟩
          refine Plan.move_tuple rfl rfl ?_
          refine Plan.extract_slice rfl rfl rfl ?_
          refine Plan.extract_int rfl rfl rfl ?_
          refine Plan.assign_slice rfl rfl ?_
          refine Plan.assign_int rfl rfl ?_
          refine Plan.nil ?_
          refine hK104 _ _ ?_; clear hK104
          refine W.seq_k fun K116 hK116 => ?_
          refine W.seq_k fun K124 hK124 => ?_
          refine W.regionT [(0, true), (1, true), (2, true), (3, true), (4, true), (5, true), (6, true), (7, true), (8, true), (9, true), (10, true), (11, true)] (by kernel_rfl) ?_
          refine Plan.move_int rfl rfl ?_
          by_cases hc125 : x_109 ≠ 0
          ·
            replace hR := ifT hR hc125
            refine Plan.cmpV (a := (((x_109 : Nat) : Int) : Int)) (b := (0 : Int)) (p := x_109 ≠ 0) (v := true) rfl rfl rfl rfl icmp_neN (decide_eq_true hc125) ?_
            refine Plan.move_bool rfl rfl ?_
            refine Plan.passed rfl ?_
            refine Plan.passed rfl ?_
            refine Plan.passed rfl ?_
            refine Plan.pickTb rfl rfl rfl ?_
            refine Plan.move_bool rfl rfl ?_
            refine Plan.passed rfl ?_
            refine Plan.passed rfl ?_
            refine Plan.passed rfl ?_
            refine Plan.pickTb rfl rfl rfl ?_
            refine Plan.nil ?_
            refine hK124 _ _ ?_; clear hK124
            refine W.condT rfl ?_
            refine W.seq_k fun K126 hK126 => ?_
            refine W.regionT [(0, true)] (by kernel_rfl) ?_
            refine Plan.assign_bool rfl rfl ?_
            refine Plan.nil ?_
            refine hK126 _ _ ?_; clear hK126
            refine W.ret (thenR_ret (finR_ret ?_))
            have h127 := St.pickT (C := [_, _, _, _, _, _, _, _, _, _, _, _, _, _, _, _, _, _, _, _, _]) h115 [] (by decide)
            simp only [pick, List.filterMap_cons, List.filterMap_nil, List.getElem?_cons_zero, List.getElem?_cons_succ, List.cons_append, List.nil_append] at h127
            subst r
            refine RetOk.mk (.tmp_bool rfl .nil) ?_
            exact ⟨rfl, h127⟩
          ·
            replace hR := ifF hR hc125
            refine Plan.cmpV (a := (((x_109 : Nat) : Int) : Int)) (b := (0 : Int)) (p := x_109 ≠ 0) (v := false) rfl rfl rfl rfl icmp_neN (decide_eq_false hc125) ?_
            refine Plan.move_bool rfl rfl ?_
            refine Plan.move_slice rfl rfl ?_
            refine Plan.len FAgreeIsMade.isl40 rfl rfl ?_
            by_cases hc128 : x_108.length ≠ 48
            ·
              replace hR := ifT hR hc128
              refine Plan.cmpV (a := (((x_108.length : Nat) : Int) : Int)) (b := (48 : Int)) (p := x_108.length ≠ 48) (v := true) rfl rfl rfl rfl icmp_neN (decide_eq_true hc128) ?_
              refine Plan.pickFb rfl rfl rfl ?_
              refine Plan.move_bool rfl rfl ?_
              refine Plan.passed rfl ?_
              refine Plan.passed rfl ?_
              refine Plan.passed rfl ?_
              refine Plan.pickTb rfl rfl rfl ?_
              refine Plan.nil ?_
              refine hK124 _ _ ?_; clear hK124
              refine W.condT rfl ?_
              refine W.seq_k fun K129 hK129 => ?_
              refine W.regionT [(0, true)] (by kernel_rfl) ?_
              refine Plan.assign_bool rfl rfl ?_
              refine Plan.nil ?_
              refine hK129 _ _ ?_; clear hK129
              refine W.ret (thenR_ret (finR_ret ?_))
              have h130 := St.pickT (C := [_, _, _, _, _, _, _, _, _, _, _, _, _, _, _, _, _, _, _, _, _]) h115 [] (by decide)
              simp only [pick, List.filterMap_cons, List.filterMap_nil, List.getElem?_cons_zero, List.getElem?_cons_succ, List.cons_append, List.nil_append] at h130
              subst r
              refine RetOk.mk (.tmp_bool rfl .nil) ?_
              exact ⟨rfl, h130⟩
            ·
              replace hR := ifF hR hc128
              refine Plan.cmpV (a := (((x_108.length : Nat) : Int) : Int)) (b := (48 : Int)) (p := x_108.length ≠ 48) (v := false) rfl rfl rfl rfl icmp_neN (decide_eq_false hc128) ?_
              refine Plan.pickFb rfl rfl rfl ?_
              refine Plan.move_bool rfl rfl ?_
              refine Plan.fieldAddr 177 FAgreeIsMade.fld35_4 rfl rfl ?_
              refine Plan.load0 h115 13 rfl rfl rfl (by omega) FAgreeIsMade.sc3 ?_
              refine Plan.cmpP (a := (((x_22 : Nat) : Int) : Int)) (b := (0 : Int)) (p := x_22 ≠ 0) rfl rfl rfl rfl icmp_neN ?_
              refine Plan.pickFb rfl rfl rfl ?_
              refine Plan.nil ?_
              refine hK124 _ _ ?_; clear hK124
              by_cases hc131 : x_22 ≠ 0
              ·
                replace hR := ifT hR hc131
                refine W.condT (congrArg Value.bool (decide_eq_true hc131)) ?_
                refine W.seq_k fun K132 hK132 => ?_
                refine W.regionT [(0, true)] (by kernel_rfl) ?_
                refine Plan.assign_bool rfl rfl ?_
                refine Plan.nil ?_
                refine hK132 _ _ ?_; clear hK132
                refine W.ret (thenR_ret (finR_ret ?_))
                have h133 := St.pickT (C := [_, _, _, _, _, _, _, _, _, _, _, _, _, _, _, _, _, _, _, _, _]) h115 [] (by decide)
                simp only [pick, List.filterMap_cons, List.filterMap_nil, List.getElem?_cons_zero, List.getElem?_cons_succ, List.cons_append, List.nil_append] at h133
                subst r
                refine RetOk.mk (.tmp_bool rfl .nil) ?_
                exact ⟨rfl, h133⟩
              ·
                replace hR := ifF hR hc131
                refine W.condF (congrArg Value.bool (decide_eq_false hc131)) ?_
                refine W.skip ?_
                refine hK116 _ _ ?_; clear hK116
                refine W.seq_k fun K134 hK134 => ?_
                refine W.regionD FAgreeIsMade.mixed [(0, true), (1, true), (2, true), (3, true), (4, true), (5, true), (6, true), (7, true), (8, true), (9, true), (10, true), (11, true), (12, true), (13, true), (14, true), (15, true), (16, true), (17, true), (18, true), (19, true), (20, true), (21, true), (22, true), (23, true), (24, true), (25, true), (26, true), (27, true), (28, true)] (by kernel_rfl) ?_
                have h135 := h115.drew
                refine Plan.fieldAddr0 FAgreeIsMade.fld35_0 rfl rfl ?_
                refine Plan.slArrO (lo := 0) (hi := 32) (m := 32) (c := 32) (o' := 0) FAgreeIsMade.arr23 rfl rfl rfl rfl (by omega) (by omega) (by omega) (by omega) ?_
                refine Plan.toStrV h135 (Bx.arr0 (n := 32) (cc := 32) 7 rfl (by omega) (by omega)) FAgreeIsMade.slu40 FAgreeIsMade.u5 FAgreeIsMade.str9 rfl rfl fun r136 hr136 => ?_
                refine Plan.move_slice rfl rfl ?_
                obtain ⟨hc137, hR⟩ := hR
                have hm138 := hf115_0.hc
                refine Plan.slSl (lo := 0) (hi := 32) FAgreeIsMade.sl40 rfl rfl rfl ⟨_, rfl⟩ (by omega) ?_
                refine Plan.toStrV h135 ((hf115_0.bx 0 rfl).seg (lo := 0) (hi := 32) hc137) FAgreeIsMade.slu40 FAgreeIsMade.u5 FAgreeIsMade.str9 rfl rfl fun r139 hr139 => ?_
                by_cases hc140 : (dl 32 x_16) = (seg x_108 0 32)
                ·
                  replace hR := ifT hR hc140
                  refine Plan.eqStrV (v := true) rfl rfl rfl (decide_eq_true hc140) ?_
                  refine Plan.move_bool rfl rfl ?_
                  refine Plan.fieldAddr 32 FAgreeIsMade.fld35_1 rfl rfl ?_
                  refine Plan.slArrO (lo := 0) (hi := 16) (m := 16) (c := 16) (o' := 32) FAgreeIsMade.arr30 rfl rfl rfl rfl (by omega) (by omega) (by omega) (by omega) ?_
                  refine Plan.toStrV h135 (Bx.arr0 (n := 16) (cc := 16) 8 rfl (by omega) (by omega)) FAgreeIsMade.slu40 FAgreeIsMade.u5 FAgreeIsMade.str9 rfl rfl fun r141 hr141 => ?_
                  refine Plan.move_slice rfl rfl ?_
                  obtain ⟨hc142, hR⟩ := hR
                  have hm143 := hf115_0.hc
                  refine Plan.slSl (lo := 32) (hi := x_108.length) FAgreeIsMade.sl40 rfl rfl ⟨_, rfl⟩ rfl (by omega) ?_
                  refine Plan.toStrV h135 ((hf115_0.bx 0 rfl).seg (lo := 32) (hi := x_108.length) hc142) FAgreeIsMade.slu40 FAgreeIsMade.u5 FAgreeIsMade.str9 rfl rfl fun r144 hr144 => ?_
                  by_cases hc145 : (dl 16 x_17) = (seg x_108 32 x_108.length)
                  ·
                    replace hR := ifT hR hc145
                    refine Plan.eqStrV (v := true) rfl rfl rfl (decide_eq_true hc145) ?_
                    refine Plan.pickTb rfl rfl rfl ?_
                    refine Plan.move_bool rfl rfl ?_
                    refine Plan.fieldAddr 112 FAgreeIsMade.fld35_3 rfl rfl ?_
                    refine Plan.loadA h135 rfl rfl (.cons 10 rfl (.cons 11 rfl (.cons 12 rfl .nil))) FAgreeIsMade.agg33 ?_
                    refine Plan.fieldAddr 32 FAgreeIsMade.fld25_1 rfl rfl ?_
                    refine Plan.loadA1 h135 20 rfl rfl rfl FAgreeIsMade.agg23 ?_
                    refine Plan.fieldAddr 32 FAgreeIsMade.fld25_1 rfl rfl ?_
                    refine Plan.loadA1 h135 18 rfl rfl rfl FAgreeIsMade.agg23 ?_
                    refine Plan.fieldAddr 32 FAgreeIsMade.fld28_1 rfl rfl ?_
                    refine Plan.load0 h135 15 rfl rfl rfl (by omega) FAgreeIsMade.sc26 ?_
                    refine Plan.buildP (ps := [(32, fun q => VU .u8 (ownPub2 q)), (32, fun q => VU .u8 (oncePub4 q)), (1, fun _ => VU .u32 (offerPrekey6 ||| (1#32)))]) FAgreeIsMade.pl33 (by decide) FAgreeIsMade.z33 rfl rfl (.agg [] [(32, fun q => VU .u8 ((fun _ => 0#8) q))] [(32, fun q => VU .u8 ((fun _ => 0#8) q)), (1, fun _ => VU .u32 (0#32))] [(32, fun q => VU .u8 (ownPub2 q))] rfl rfl (.agg [(32, fun q => VU .u8 (ownPub2 q))] [(32, fun q => VU .u8 ((fun _ => 0#8) q))] [(1, fun _ => VU .u32 (0#32))] [(32, fun q => VU .u8 (oncePub4 q))] rfl rfl (.one [(32, fun q => VU .u8 (ownPub2 q)), (32, fun q => VU .u8 (oncePub4 q))] [] (fun _ => VU .u32 (0#32)) rfl rfl .nil))) ?_
                    refine Plan.eqStrV' (c := ((eqB 32 x_19 ownPub2) && ((eqB 32 x_20 oncePub4) && ((decide (x_21 = (offerPrekey6 ||| (1#32)))) && true)))) FAgreeIsMade.eqg33 rfl rfl rfl (EqV.struct (d := 9999) (l := [(23, 0), (23, 32), (26, 64)]) FAgreeIsMade.flds33 (.agg [] [(32, fun q => VU .u8 (x_19 q))] [(32, fun q => VU .u8 (x_20 q)), (1, fun _ => VU .u32 x_21)] [] [(32, fun q => VU .u8 (ownPub2 q))] [(32, fun q => VU .u8 (oncePub4 q)), (1, fun _ => VU .u32 (offerPrekey6 ||| (1#32)))] rfl rfl rfl rfl FAgreeIsMade.agg23 FAgreeIsMade.agg23 (EqV.arr (d := 9997) (F := x_19) (G := ownPub2) FAgreeIsMade.arrI23) (.agg [(32, fun q => VU .u8 (x_19 q))] [(32, fun q => VU .u8 (x_20 q))] [(1, fun _ => VU .u32 x_21)] [(32, fun q => VU .u8 (ownPub2 q))] [(32, fun q => VU .u8 (oncePub4 q))] [(1, fun _ => VU .u32 (offerPrekey6 ||| (1#32)))] rfl rfl rfl rfl FAgreeIsMade.agg23 FAgreeIsMade.agg23 (EqV.arr (d := 9997) (F := x_20) (G := oncePub4) FAgreeIsMade.arrI23) (.one [(32, fun q => VU .u8 (x_19 q)), (32, fun q => VU .u8 (x_20 q))] [] [(32, fun q => VU .u8 (ownPub2 q)), (32, fun q => VU .u8 (oncePub4 q))] [] (fun _ => VU .u32 x_21) (fun _ => VU .u32 (offerPrekey6 ||| (1#32))) rfl rfl rfl rfl FAgreeIsMade.sc26 rfl rfl (EqV.u (d := 9998) (a := x_21) (b := (offerPrekey6 ||| (1#32))) FAgreeIsMade.int26) .nil)))) rfl ?_
                    refine Plan.pickTb rfl rfl rfl ?_
                    refine Plan.assign_bool rfl rfl ?_
                    refine Plan.nil ?_
                    refine hK134 _ _ ?_; clear hK134
                    refine W.ret (finR_ret ?_)
                    have h146 := St.pickT (C := [_, _, _, _, _, _, _, _, _, _, _, _, _, _, _, _, _, _, _, _, _]) h135 [] (by decide)
                    simp only [pick, List.filterMap_cons, List.filterMap_nil, List.getElem?_cons_zero, List.getElem?_cons_succ, List.cons_append, List.nil_append] at h146
                    subst r
                    refine RetOk.mk (.tmp_bool rfl .nil) ?_
                    exact ⟨rfl, h146⟩
                  ·
                    replace hR := ifF hR hc145
                    refine Plan.eqStrV (v := false) rfl rfl rfl (decide_eq_false hc145) ?_
                    refine Plan.pickTb rfl rfl rfl ?_
                    refine Plan.move_bool rfl rfl ?_
                    refine Plan.passed rfl ?_
                    refine Plan.passed rfl ?_
                    refine Plan.passed rfl ?_
                    refine Plan.passed rfl ?_
                    refine Plan.passed rfl ?_
                    refine Plan.passed rfl ?_
                    refine Plan.passed rfl ?_
                    refine Plan.passed rfl ?_
                    refine Plan.passed rfl ?_
                    refine Plan.passed rfl ?_
                    refine Plan.pickFb rfl rfl rfl ?_
                    refine Plan.assign_bool rfl rfl ?_
                    refine Plan.nil ?_
                    refine hK134 _ _ ?_; clear hK134
                    refine W.ret (finR_ret ?_)
                    have h147 := St.pickT (C := [_, _, _, _, _, _, _, _, _, _, _, _, _, _, _, _, _, _, _, _, _]) h135 [] (by decide)
                    simp only [pick, List.filterMap_cons, List.filterMap_nil, List.getElem?_cons_zero, List.getElem?_cons_succ, List.cons_append, List.nil_append] at h147
                    subst r
                    refine RetOk.mk (.tmp_bool rfl .nil) ?_
                    exact ⟨rfl, h147⟩
                ·
                  replace hR := ifF hR hc140
                  refine Plan.eqStrV (v := false) rfl rfl rfl (decide_eq_false hc140) ?_
                  refine Plan.move_bool rfl rfl ?_
                  refine Plan.passed rfl ?_
                  refine Plan.passed rfl ?_
                  refine Plan.passed rfl ?_
                  refine Plan.passed rfl ?_
                  refine Plan.passed rfl ?_
                  refine Plan.passed rfl ?_
                  refine Plan.passed rfl ?_
                  refine Plan.pickFb rfl rfl rfl ?_
                  refine Plan.move_bool rfl rfl ?_
                  refine Plan.passed rfl ?_
                  refine Plan.passed rfl ?_
                  refine Plan.passed rfl ?_
                  refine Plan.passed rfl ?_
                  refine Plan.passed rfl ?_
                  refine Plan.passed rfl ?_
                  refine Plan.passed rfl ?_
                  refine Plan.passed rfl ?_
                  refine Plan.passed rfl ?_
                  refine Plan.passed rfl ?_
                  refine Plan.pickFb rfl rfl rfl ?_
                  refine Plan.assign_bool rfl rfl ?_
                  refine Plan.nil ?_
                  refine hK134 _ _ ?_; clear hK134
                  refine W.ret (finR_ret ?_)
                  have h148 := St.pickT (C := [_, _, _, _, _, _, _, _, _, _, _, _, _, _, _, _, _, _, _, _, _]) h135 [] (by decide)
                  simp only [pick, List.filterMap_cons, List.filterMap_nil, List.getElem?_cons_zero, List.getElem?_cons_succ, List.cons_append, List.nil_append] at h148
                  subst r
                  refine RetOk.mk (.tmp_bool rfl .nil) ?_
                  exact ⟨rfl, h148⟩

end Go.Proofs.YtjclppnbbpnfnaaDoor
