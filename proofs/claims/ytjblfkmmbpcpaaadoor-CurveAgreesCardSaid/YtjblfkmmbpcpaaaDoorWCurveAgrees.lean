/-
  WALKS of the package's functions, printed by this session's own program (auto.py).
-/
import Derived.Test.YtjblfkmmbpcpaaaDoorProg
import Derived.Test.YtjblfkmmbpcpaaaDoorLx7
import Derived.Test.YtjblfkmmbpcpaaaDoorRCurveAgrees
import Derived.Test.YtjblfkmmbpcpaaaDoorWCurve
import Derived.Test.YtjblfkmmbpcpaaaDoorWLaw07
namespace Go.Proofs.YtjblfkmmbpcpaaaDoor
set_option linter.unusedSimpArgs false
set_option linter.unusedVariables false
set_option linter.unusedSectionVars false
open Go Go.LW
theorem FCurveAgrees.mixed : Tryd.prog.follows .mixedOrders = true := by kernel_rfl
theorem FCurveAgrees.agg23 : aggT Tryd.prog 23 32 = true := by kernel_rfl
theorem FCurveAgrees.arr23 : arrB Tryd.prog 23 32 1 = true := by kernel_rfl
theorem FCurveAgrees.z23 : zeroIs Tryd.prog 23 [(32, fun _ => VU .u8 0#8)] := zeroIs_agg (by kernel_rfl)
theorem FCurveAgrees.sz23 : szT Tryd.prog 23 32 = true := by kernel_rfl
theorem FCurveAgrees.arrI23 : arrIB Tryd.prog 23 32 .u8 = true := by kernel_rfl
theorem FCurveAgrees.call26 : callB Tryd.prog 26 = true := by kernel_rfl
theorem FCurveAgrees.call24 : callB Tryd.prog 24 = true := by kernel_rfl
theorem FCurveAgrees.call31 : callB Tryd.prog 31 = true := by kernel_rfl
theorem FCurveAgrees.call28 : callB Tryd.prog 28 = true := by kernel_rfl
theorem FCurveAgrees.call23 : callB Tryd.prog 23 = true := by kernel_rfl
theorem FCurveAgrees.z72 : zeroIs Tryd.prog 72 [(32, fun _ => VU .u8 0#8), (32, fun _ => VU .u8 0#8)] := zeroIs_agg (by kernel_rfl)
theorem FCurveAgrees.sz72 : szT Tryd.prog 72 64 = true := by kernel_rfl
theorem FCurveAgrees.call30 : callB Tryd.prog 30 = true := by kernel_rfl
theorem FCurveAgrees.fld72_0 : fieldB Tryd.prog 72 0 0 = true := by kernel_rfl
theorem FCurveAgrees.fld72_1 : fieldB Tryd.prog 72 1 32 = true := by kernel_rfl

set_option maxRecDepth 8000 in
set_option maxHeartbeats 1000000 in
theorem lethelaw07_CurveAgrees_ok {B : Nat} {w0 w : World} {L : List Rg} {iG0 : Nat} (hG0 : L[iG0]? = some ⟨some 0, 0, 5, fun q => VU .u64 (twice5 q), false⟩) {a1 : Nat → BitVec 8} {b2 : Nat → BitVec 8} {r : Bool} (hR : lethelaw07_CurveAgrees a1 b2 r) (HST : St B w0 (L) w) :
    Calls Tryd.prog 11 #[AG [(32, fun q => VU .u8 (a1 q))], AG [(32, fun q => VU .u8 (b2 q))]] w fun e w' => e = .returned (.bool r) ∧ St B w0 (L) w' := by
  refine W.enter 87 Tryd.func11 rfl rfl rfl ?_
  unfold lethelaw07_CurveAgrees at hR
  refine W.seq_k fun K3 hK3 => ?_
  refine W.regionT [(0, false), (1, false), (2, true)] (by kernel_rfl) ?_
  refine Plan.boxA HST rfl rfl PIn.nil fun b4 w4 hb4 h4 => ?_
  simp only [rngs, Nat.zero_add, Nat.reduceAdd, List.cons_append, List.nil_append] at h4
  refine Plan.boxA h4 rfl rfl PIn.nil fun b5 w5 hb5 h5 => ?_
  simp only [rngs, Nat.zero_add, Nat.reduceAdd, List.cons_append, List.nil_append] at h5
  refine Plan.assign_bool rfl rfl ?_
  refine Plan.nil ?_
  refine hK3 _ _ ?_; clear hK3
  refine W.seq_k fun K6 hK6 => ?_
  refine W.regionT [(0, true), (1, false), (2, true), (3, true), (4, true), (5, false), (6, false), (7, true)] (by kernel_rfl) ?_
  refine Plan.slArrO (lo := 0) (hi := 32) (m := 32) (c := 32) (o' := 0) FCurveAgrees.arr23 rfl rfl rfl rfl (by omega) (by omega) (by omega) (by omega) ?_
  obtain ⟨x_8, x_9, x_10, hr7, hR⟩ := hR
  refine Plan.call (vs := [.slice (some ⟨b4, 0, none⟩) 32 32]) rfl FCurveAgrees.call30 rfl (curve_NewPair_ok (iG0 := iG0 + 2) hG0 (by exact (Bx.arr0 (n := 32) (cc := 32) 1 rfl (by omega) (by omega))) hr7 h5) ?_
  rintro _ w11 ⟨rfl, h11⟩
  refine ⟨_, rfl, .inl ⟨PIn.keep PIn.nil h11, ?_⟩⟩
  refine Plan.move_tuple rfl rfl ?_
  refine Plan.extract_agg rfl rfl rfl ?_
  refine Plan.extract_int rfl rfl rfl ?_
  refine Plan.alloc h11 rfl FCurveAgrees.z72 PIn.nil fun b12 w12 hb12 h12 => ?_
  simp only [rngs, Nat.zero_add, Nat.reduceAdd, List.cons_append, List.nil_append] at h12
  refine Plan.storeP (ps := [(32, fun q => VU .u8 (x_8 q)), (32, fun q => VU .u8 (x_9 q))]) h12 rfl rfl rfl (.cons 0 rfl (.cons 1 rfl .nil)) ⟨fun _ _ => rfl, fun _ _ => rfl, trivial⟩ FCurveAgrees.sz72 (EffO.keep PIn.nil) fun w13 h13 => ?_
  simp only [List.cons_append, List.nil_append, List.set_cons_zero, List.set_cons_succ] at h13
  refine Plan.assign_int rfl rfl ?_
  refine Plan.nil ?_
  refine hK6 _ _ ?_; clear hK6
  refine W.seq_k fun K14 hK14 => ?_
  refine W.regionT [(0, true), (1, false), (2, true), (3, true), (4, true), (5, false), (6, false), (7, true)] (by kernel_rfl) ?_
  refine Plan.slArrO (lo := 0) (hi := 32) (m := 32) (c := 32) (o' := 0) FCurveAgrees.arr23 rfl rfl rfl rfl (by omega) (by omega) (by omega) (by omega) ?_
  obtain ⟨x_16, x_17, x_18, hr15, hR⟩ := hR
  refine Plan.call (vs := [.slice (some ⟨b5, 0, none⟩) 32 32]) rfl FCurveAgrees.call30 rfl (curve_NewPair_ok (iG0 := iG0 + 4) hG0 (by exact (Bx.arr0 (n := 32) (cc := 32) 2 rfl (by omega) (by omega))) hr15 h13) ?_
  rintro _ w19 ⟨rfl, h19⟩
  refine ⟨_, rfl, .inl ⟨PIn.keep PIn.nil h19, ?_⟩⟩
  refine Plan.move_tuple rfl rfl ?_
  refine Plan.extract_agg rfl rfl rfl ?_
  refine Plan.extract_int rfl rfl rfl ?_
  refine Plan.alloc h19 rfl FCurveAgrees.z72 PIn.nil fun b20 w20 hb20 h20 => ?_
  simp only [rngs, Nat.zero_add, Nat.reduceAdd, List.cons_append, List.nil_append] at h20
  refine Plan.storeP (ps := [(32, fun q => VU .u8 (x_16 q)), (32, fun q => VU .u8 (x_17 q))]) h20 rfl rfl rfl (.cons 0 rfl (.cons 1 rfl .nil)) ⟨fun _ _ => rfl, fun _ _ => rfl, trivial⟩ FCurveAgrees.sz72 (EffO.keep PIn.nil) fun w21 h21 => ?_
  simp only [List.cons_append, List.nil_append, List.set_cons_zero, List.set_cons_succ] at h21
  refine Plan.assign_int rfl rfl ?_
  refine Plan.nil ?_
  refine hK14 _ _ ?_; clear hK14
  refine W.seq_k fun K22 hK22 => ?_
  refine W.regionT [(0, true), (1, true), (2, true), (3, true), (4, false), (5, true), (6, true), (7, true), (8, false), (9, false), (10, true)] (by kernel_rfl) ?_
  refine Plan.fieldAddr0 FCurveAgrees.fld72_0 rfl rfl ?_
  refine Plan.loadA1 h21 2 rfl rfl rfl FCurveAgrees.agg23 ?_
  refine Plan.fieldAddr 32 FCurveAgrees.fld72_1 rfl rfl ?_
  refine Plan.loadA1 h21 1 rfl rfl rfl FCurveAgrees.agg23 ?_
  obtain ⟨x_24, x_25, hr23, hR⟩ := hR
  refine Plan.call (vs := [AG [(32, fun q => VU .u8 (x_8 q))], AG [(32, fun q => VU .u8 (x_17 q))]]) rfl FCurveAgrees.call28 rfl (curve_Shared_ok (iG0 := iG0 + 6) hG0 hr23 h21) ?_
  rintro _ w26 ⟨rfl, h26⟩
  refine ⟨_, rfl, .inr ⟨rfl, ?_⟩⟩
  refine Plan.move_tuple rfl rfl ?_
  refine Plan.extract_agg rfl rfl rfl ?_
  refine Plan.extract_int rfl rfl rfl ?_
  refine Plan.alloc h26 rfl FCurveAgrees.z23 PIn.nil fun b27 w27 hb27 h27 => ?_
  simp only [rngs, Nat.zero_add, Nat.reduceAdd, List.cons_append, List.nil_append] at h27
  refine Plan.storeA (f' := fun q => VU .u8 (x_24 q)) h27 0 rfl rfl rfl rfl (fun _ _ => rfl) FCurveAgrees.sz23 rfl fun w28 h28 => ?_
  simp only [List.cons_append, List.nil_append, List.set_cons_zero, List.set_cons_succ] at h28
  refine Plan.assign_int rfl rfl ?_
  refine Plan.nil ?_
  refine hK22 _ _ ?_; clear hK22
  refine W.seq_k fun K29 hK29 => ?_
  refine W.regionT [(0, true), (1, true), (2, true), (3, true), (4, false), (5, true), (6, true), (7, true), (8, false), (9, false), (10, true)] (by kernel_rfl) ?_
  refine Plan.fieldAddr0 FCurveAgrees.fld72_0 rfl rfl ?_
  refine Plan.loadA1 h28 1 rfl rfl rfl FCurveAgrees.agg23 ?_
  refine Plan.fieldAddr 32 FCurveAgrees.fld72_1 rfl rfl ?_
  refine Plan.loadA1 h28 4 rfl rfl rfl FCurveAgrees.agg23 ?_
  obtain ⟨x_31, x_32, hr30, hR⟩ := hR
  refine Plan.call (vs := [AG [(32, fun q => VU .u8 (x_16 q))], AG [(32, fun q => VU .u8 (x_9 q))]]) rfl FCurveAgrees.call28 rfl (curve_Shared_ok (iG0 := iG0 + 7) hG0 hr30 h28) ?_
  rintro _ w33 ⟨rfl, h33⟩
  refine ⟨_, rfl, .inr ⟨rfl, ?_⟩⟩
  refine Plan.move_tuple rfl rfl ?_
  refine Plan.extract_agg rfl rfl rfl ?_
  refine Plan.extract_int rfl rfl rfl ?_
  refine Plan.alloc h33 rfl FCurveAgrees.z23 PIn.nil fun b34 w34 hb34 h34 => ?_
  simp only [rngs, Nat.zero_add, Nat.reduceAdd, List.cons_append, List.nil_append] at h34
  refine Plan.storeA (f' := fun q => VU .u8 (x_31 q)) h34 0 rfl rfl rfl rfl (fun _ _ => rfl) FCurveAgrees.sz23 rfl fun w35 h35 => ?_
  simp only [List.cons_append, List.nil_append, List.set_cons_zero, List.set_cons_succ] at h35
  refine Plan.assign_int rfl rfl ?_
  refine Plan.nil ?_
  refine hK29 _ _ ?_; clear hK29
  refine W.seq_k fun K36 hK36 => ?_
  refine W.regionX (B := B) (w0 := w0) (L := L) FCurveAgrees.mixed [⟨4, 13, 23, [(32, fun q => VU .u8 ((fun _ => 0#8) q))]⟩] [(0, true), (1, true)] [[(2, false)], [(3, false)]] [(5, false)] (by kernel_rfl) (by kernel_rfl) (.cons FCurveAgrees.z23 .nil) ?_
  have h37 := h35.drew
  refine Plan.loadA1 h37 7 rfl rfl rfl FCurveAgrees.agg23 ?_
  refine Plan.loadA1 h37 6 rfl rfl rfl FCurveAgrees.agg23 ?_
  refine Plan.nil ⟨[_, _, _, _, _, _, _, _], h37, (PIn.cons 6 rfl (PIn.cons 7 rfl PIn.nil)), ?_⟩
  refine PX.step fun C38 z38 w38 h38 => ?_
  simp only [List.cons_append, List.nil_append] at h38
  obtain ⟨x_40, hr39, hR⟩ := hR
  refine Plan.call (vs := [AG [(32, fun q => VU .u8 (b2 q))]]) rfl FCurveAgrees.call31 rfl (curve_Public_ok (iG0 := (iG0 + C38.length) + 8) (flget hG0 C38) hr39 h38) ?_
  rintro _ w41 ⟨rfl, h41⟩
  refine ⟨_, rfl, .inl ⟨PIn.keep (PIn.cons 6 rfl (PIn.cons 7 rfl PIn.nil)) h41, ?_⟩⟩
  refine Plan.nil ⟨[_, _, _, _, _, _, _, _], h41, (PIn.cons 6 rfl (PIn.cons 7 rfl PIn.nil)), ?_⟩
  refine PX.step fun C42 z42 w42 h42 => ?_
  simp only [List.cons_append, List.nil_append] at h42
  obtain ⟨x_44, hr43, hR⟩ := hR
  refine Plan.call (vs := [AG [(32, fun q => VU .u8 (a1 q))], AG [(32, fun q => VU .u8 (x_40 q))]]) rfl FCurveAgrees.call24 rfl (curve_Times_ok (iG0 := (iG0 + C42.length) + 8) (flget hG0 C42) hr43 h42) ?_
  rintro _ w45 ⟨rfl, h45⟩
  refine ⟨_, rfl, .inl ⟨PIn.keep (PIn.cons 6 rfl (PIn.cons 7 rfl PIn.nil)) h45, ?_⟩⟩
  refine Plan.nil ⟨[_, _, _, _, _, _, _, _], h45, (PIn.cons 6 rfl (PIn.cons 7 rfl PIn.nil)), ?_⟩
  refine PX.done (KE.step fun b46_4 => (KE.fin fun w46 h46 => ?_))
  simp only [rngs, Nat.zero_add, Nat.reduceAdd, List.cons_append, List.nil_append] at h46
  refine Plan.storeA (f' := fun q => VU .u8 (x_44 q)) h46 8 rfl rfl rfl rfl (fun _ _ => rfl) FCurveAgrees.sz23 rfl fun w47 h47 => ?_
  simp only [List.cons_append, List.nil_append, List.set_cons_zero, List.set_cons_succ] at h47
  refine Plan.nil ?_
  refine hK36 _ _ ?_; clear hK36
  refine W.seq_k fun K48 hK48 => ?_
  refine W.regionT [(0, false), (1, true)] (by kernel_rfl) ?_
  obtain ⟨x_50, hr49, hR⟩ := hR
  refine Plan.call (vs := []) rfl FCurveAgrees.call23 rfl (lethelaw07_fixed_ok (iG0 := iG0 + 9) hG0 hr49 h47) ?_
  rintro _ w51 ⟨rfl, h51⟩
  refine ⟨_, rfl, .inl ⟨PIn.keep PIn.nil h51, ?_⟩⟩
  refine Plan.assign_bool rfl rfl ?_
  refine Plan.nil ?_
  refine hK48 _ _ ?_; clear hK48
  refine W.seq_k fun K52 hK52 => ?_
  refine W.regionD FCurveAgrees.mixed [(0, true), (1, true), (2, true), (3, true), (4, true), (5, true), (6, true), (7, true), (8, true), (9, true), (10, true), (11, true), (12, true), (13, true), (14, true), (15, true), (16, true), (17, true), (18, true), (19, true), (20, true), (21, true), (22, true), (23, true), (24, true), (25, true), (26, true), (27, true), (28, true), (29, true), (30, true), (31, false), (32, true), (33, true), (34, true), (35, true), (36, true), (37, true), (38, false), (39, true), (40, true), (41, true)] (by kernel_rfl) ?_
  have h53 := h51.drew
  by_cases hc54 : x_50 = true
  ·
    replace hR := ifT hR hc54
    refine Plan.move_bool (b := true) rfl (congrArg Value.bool hc54) ?_
    refine Plan.move_bool rfl rfl ?_
    refine Plan.move_int rfl rfl ?_
    by_cases hc55 : x_10 = 0
    ·
      replace hR := ifT hR hc55
      refine Plan.cmpV (a := (((x_10 : Nat) : Int) : Int)) (b := (0 : Int)) (p := x_10 = 0) (v := true) rfl rfl rfl rfl icmp_eqN (decide_eq_true hc55) ?_
      refine Plan.pickTb rfl rfl rfl ?_
      refine Plan.move_bool rfl rfl ?_
      refine Plan.move_int rfl rfl ?_
      by_cases hc56 : x_18 = 0
      ·
        replace hR := ifT hR hc56
        refine Plan.cmpV (a := (((x_18 : Nat) : Int) : Int)) (b := (0 : Int)) (p := x_18 = 0) (v := true) rfl rfl rfl rfl icmp_eqN (decide_eq_true hc56) ?_
        refine Plan.pickTb rfl rfl rfl ?_
        refine Plan.move_bool rfl rfl ?_
        refine Plan.move_int rfl rfl ?_
        by_cases hc57 : x_25 = 0
        ·
          replace hR := ifT hR hc57
          refine Plan.cmpV (a := (((x_25 : Nat) : Int) : Int)) (b := (0 : Int)) (p := x_25 = 0) (v := true) rfl rfl rfl rfl icmp_eqN (decide_eq_true hc57) ?_
          refine Plan.pickTb rfl rfl rfl ?_
          refine Plan.move_bool rfl rfl ?_
          refine Plan.move_int rfl rfl ?_
          by_cases hc58 : x_32 = 0
          ·
            replace hR := ifT hR hc58
            refine Plan.cmpV (a := (((x_32 : Nat) : Int) : Int)) (b := (0 : Int)) (p := x_32 = 0) (v := true) rfl rfl rfl rfl icmp_eqN (decide_eq_true hc58) ?_
            refine Plan.pickTb rfl rfl rfl ?_
            refine Plan.move_bool rfl rfl ?_
            refine Plan.loadA1 h53 1 rfl rfl rfl FCurveAgrees.agg23 ?_
            refine Plan.loadA1 h53 0 rfl rfl rfl FCurveAgrees.agg23 ?_
            by_cases hc59 : (eqB 32 x_24 x_31) = true
            ·
              replace hR := ifT hR hc59
              refine Plan.eqArrV (b := true) FCurveAgrees.arrI23 rfl rfl rfl hc59 ?_
              refine Plan.pickTb rfl rfl rfl ?_
              refine Plan.move_bool rfl rfl ?_
              refine Plan.loadA1 h53 1 rfl rfl rfl FCurveAgrees.agg23 ?_
              refine Plan.loadA1 h53 8 rfl rfl rfl FCurveAgrees.agg23 ?_
              by_cases hc60 : (eqB 32 x_24 x_44) = true
              ·
                replace hR := ifT hR hc60
                refine Plan.eqArrV (b := true) FCurveAgrees.arrI23 rfl rfl rfl hc60 ?_
                refine Plan.pickTb rfl rfl rfl ?_
                refine Plan.move_bool rfl rfl ?_
                refine Plan.fieldAddr0 FCurveAgrees.fld72_0 rfl rfl ?_
                refine Plan.loadA1 h53 4 rfl rfl rfl FCurveAgrees.agg23 ?_
                refine Plan.loadA1 h53 7 rfl rfl rfl FCurveAgrees.agg23 ?_
                obtain ⟨x_62, hr61, hR⟩ := hR
                refine Plan.call (vs := [AG [(32, fun q => VU .u8 (a1 q))]]) rfl FCurveAgrees.call26 rfl (curve_Clamp_ok  hr61 h53) ?_
                rintro _ w63 ⟨rfl, h63⟩
                refine ⟨_, rfl, .inl ⟨PIn.keep (PIn.cons 7 rfl (PIn.cons 4 rfl (PIn.cons 8 rfl (PIn.cons 1 rfl (PIn.cons 0 rfl (PIn.cons 1 rfl PIn.nil)))))) h63, ?_⟩⟩
                by_cases hc64 : (eqB 32 x_8 x_62) = true
                ·
                  replace hR := ifT hR hc64
                  refine Plan.eqArrV (b := true) FCurveAgrees.arrI23 rfl rfl rfl hc64 ?_
                  refine Plan.pickTb rfl rfl rfl ?_
                  refine Plan.move_bool rfl rfl ?_
                  refine Plan.fieldAddr 32 FCurveAgrees.fld72_1 rfl rfl ?_
                  refine Plan.loadA1 h63 5 rfl rfl rfl FCurveAgrees.agg23 ?_
                  refine Plan.loadA1 h63 7 rfl rfl rfl FCurveAgrees.agg23 ?_
                  obtain ⟨x_66, hr65, hR⟩ := hR
                  refine Plan.call (vs := [AG [(32, fun q => VU .u8 (a1 q))]]) rfl FCurveAgrees.call31 rfl (curve_Public_ok (iG0 := iG0 + 9) hG0 hr65 h63) ?_
                  rintro _ w67 ⟨rfl, h67⟩
                  refine ⟨_, rfl, .inl ⟨PIn.keep (PIn.cons 7 rfl (PIn.cons 5 rfl (PIn.cons 7 rfl (PIn.cons 4 rfl (PIn.cons 8 rfl (PIn.cons 1 rfl (PIn.cons 0 rfl (PIn.cons 1 rfl PIn.nil)))))))) h67, ?_⟩⟩
                  refine Plan.eqArrV (b := (eqB 32 x_9 x_66)) FCurveAgrees.arrI23 rfl rfl rfl rfl ?_
                  refine Plan.pickTb rfl rfl rfl ?_
                  refine Plan.assign_bool rfl rfl ?_
                  refine Plan.nil ?_
                  refine hK52 _ _ ?_; clear hK52
                  refine W.ret (finR_ret ?_)
                  have h68 := St.pickT (C := [_, _, _, _, _, _, _, _, _]) h67 [] (by decide)
                  simp only [pick, List.filterMap_cons, List.filterMap_nil, List.getElem?_cons_zero, List.getElem?_cons_succ, List.cons_append, List.nil_append] at h68
                  subst r
                  refine RetOk.mk (.tmp_bool rfl .nil) ?_
                  exact ⟨rfl, h68⟩
                ·
                  replace hR := ifF hR hc64
                  refine Plan.eqArrV (b := false) FCurveAgrees.arrI23 rfl rfl rfl (Bool.eq_false_iff.2 hc64) ?_
                  refine Plan.pickTb rfl rfl rfl ?_
                  refine Plan.move_bool rfl rfl ?_
                  refine Plan.passed rfl ?_
                  refine Plan.passed rfl ?_
                  refine Plan.passed rfl ?_
                  refine Plan.passed rfl ?_
                  refine Plan.passed rfl ?_
                  refine Plan.pickFb rfl rfl rfl ?_
                  refine Plan.assign_bool rfl rfl ?_
                  refine Plan.nil ?_
                  refine hK52 _ _ ?_; clear hK52
                  refine W.ret (finR_ret ?_)
                  have h69 := St.pickT (C := [_, _, _, _, _, _, _, _, _]) h63 [] (by decide)
                  simp only [pick, List.filterMap_cons, List.filterMap_nil, List.getElem?_cons_zero, List.getElem?_cons_succ, List.cons_append, List.nil_append] at h69
                  subst r
                  refine RetOk.mk (.tmp_bool rfl .nil) ?_
                  exact ⟨rfl, h69⟩
              ·
                replace hR := ifF hR hc60
                refine Plan.eqArrV (b := false) FCurveAgrees.arrI23 rfl rfl rfl (Bool.eq_false_iff.2 hc60) ?_
                refine Plan.pickTb rfl rfl rfl ?_
                refine Plan.move_bool rfl rfl ?_
                refine Plan.passed rfl ?_
                refine Plan.passed rfl ?_
                refine Plan.passed rfl ?_
                refine Plan.passed rfl ?_
                refine Plan.passed rfl ?_
                refine Plan.pickFb rfl rfl rfl ?_
                refine Plan.move_bool rfl rfl ?_
                refine Plan.passed rfl ?_
                refine Plan.passed rfl ?_
                refine Plan.passed rfl ?_
                refine Plan.passed rfl ?_
                refine Plan.passed rfl ?_
                refine Plan.pickFb rfl rfl rfl ?_
                refine Plan.assign_bool rfl rfl ?_
                refine Plan.nil ?_
                refine hK52 _ _ ?_; clear hK52
                refine W.ret (finR_ret ?_)
                have h70 := St.pickT (C := [_, _, _, _, _, _, _, _, _]) h53 [] (by decide)
                simp only [pick, List.filterMap_cons, List.filterMap_nil, List.getElem?_cons_zero, List.getElem?_cons_succ, List.cons_append, List.nil_append] at h70
                subst r
                refine RetOk.mk (.tmp_bool rfl .nil) ?_
                exact ⟨rfl, h70⟩
            ·
              replace hR := ifF hR hc59
              refine Plan.eqArrV (b := false) FCurveAgrees.arrI23 rfl rfl rfl (Bool.eq_false_iff.2 hc59) ?_
              refine Plan.pickTb rfl rfl rfl ?_
              refine Plan.move_bool rfl rfl ?_
              refine Plan.passed rfl ?_
              refine Plan.passed rfl ?_
              refine Plan.passed rfl ?_
              refine Plan.pickFb rfl rfl rfl ?_
              refine Plan.move_bool rfl rfl ?_
              refine Plan.passed rfl ?_
              refine Plan.passed rfl ?_
              refine Plan.passed rfl ?_
              refine Plan.passed rfl ?_
              refine Plan.passed rfl ?_
              refine Plan.pickFb rfl rfl rfl ?_
              refine Plan.move_bool rfl rfl ?_
              refine Plan.passed rfl ?_
              refine Plan.passed rfl ?_
              refine Plan.passed rfl ?_
              refine Plan.passed rfl ?_
              refine Plan.passed rfl ?_
              refine Plan.pickFb rfl rfl rfl ?_
              refine Plan.assign_bool rfl rfl ?_
              refine Plan.nil ?_
              refine hK52 _ _ ?_; clear hK52
              refine W.ret (finR_ret ?_)
              have h71 := St.pickT (C := [_, _, _, _, _, _, _, _, _]) h53 [] (by decide)
              simp only [pick, List.filterMap_cons, List.filterMap_nil, List.getElem?_cons_zero, List.getElem?_cons_succ, List.cons_append, List.nil_append] at h71
              subst r
              refine RetOk.mk (.tmp_bool rfl .nil) ?_
              exact ⟨rfl, h71⟩
          ·
            replace hR := ifF hR hc58
            refine Plan.cmpV (a := (((x_32 : Nat) : Int) : Int)) (b := (0 : Int)) (p := x_32 = 0) (v := false) rfl rfl rfl rfl icmp_eqN (decide_eq_false hc58) ?_
            refine Plan.pickTb rfl rfl rfl ?_
            refine Plan.move_bool rfl rfl ?_
            refine Plan.passed rfl ?_
            refine Plan.passed rfl ?_
            refine Plan.passed rfl ?_
            refine Plan.pickFb rfl rfl rfl ?_
            refine Plan.move_bool rfl rfl ?_
            refine Plan.passed rfl ?_
            refine Plan.passed rfl ?_
            refine Plan.passed rfl ?_
            refine Plan.pickFb rfl rfl rfl ?_
            refine Plan.move_bool rfl rfl ?_
            refine Plan.passed rfl ?_
            refine Plan.passed rfl ?_
            refine Plan.passed rfl ?_
            refine Plan.passed rfl ?_
            refine Plan.passed rfl ?_
            refine Plan.pickFb rfl rfl rfl ?_
            refine Plan.move_bool rfl rfl ?_
            refine Plan.passed rfl ?_
            refine Plan.passed rfl ?_
            refine Plan.passed rfl ?_
            refine Plan.passed rfl ?_
            refine Plan.passed rfl ?_
            refine Plan.pickFb rfl rfl rfl ?_
            refine Plan.assign_bool rfl rfl ?_
            refine Plan.nil ?_
            refine hK52 _ _ ?_; clear hK52
            refine W.ret (finR_ret ?_)
            have h72 := St.pickT (C := [_, _, _, _, _, _, _, _, _]) h53 [] (by decide)
            simp only [pick, List.filterMap_cons, List.filterMap_nil, List.getElem?_cons_zero, List.getElem?_cons_succ, List.cons_append, List.nil_append] at h72
            subst r
            refine RetOk.mk (.tmp_bool rfl .nil) ?_
            exact ⟨rfl, h72⟩
        ·
          replace hR := ifF hR hc57
          refine Plan.cmpV (a := (((x_25 : Nat) : Int) : Int)) (b := (0 : Int)) (p := x_25 = 0) (v := false) rfl rfl rfl rfl icmp_eqN (decide_eq_false hc57) ?_
          refine Plan.pickTb rfl rfl rfl ?_
          refine Plan.move_bool rfl rfl ?_
          refine Plan.passed rfl ?_
          refine Plan.passed rfl ?_
          refine Plan.pickFb rfl rfl rfl ?_
          refine Plan.move_bool rfl rfl ?_
          refine Plan.passed rfl ?_
          refine Plan.passed rfl ?_
          refine Plan.passed rfl ?_
          refine Plan.pickFb rfl rfl rfl ?_
          refine Plan.move_bool rfl rfl ?_
          refine Plan.passed rfl ?_
          refine Plan.passed rfl ?_
          refine Plan.passed rfl ?_
          refine Plan.pickFb rfl rfl rfl ?_
          refine Plan.move_bool rfl rfl ?_
          refine Plan.passed rfl ?_
          refine Plan.passed rfl ?_
          refine Plan.passed rfl ?_
          refine Plan.passed rfl ?_
          refine Plan.passed rfl ?_
          refine Plan.pickFb rfl rfl rfl ?_
          refine Plan.move_bool rfl rfl ?_
          refine Plan.passed rfl ?_
          refine Plan.passed rfl ?_
          refine Plan.passed rfl ?_
          refine Plan.passed rfl ?_
          refine Plan.passed rfl ?_
          refine Plan.pickFb rfl rfl rfl ?_
          refine Plan.assign_bool rfl rfl ?_
          refine Plan.nil ?_
          refine hK52 _ _ ?_; clear hK52
          refine W.ret (finR_ret ?_)
          have h73 := St.pickT (C := [_, _, _, _, _, _, _, _, _]) h53 [] (by decide)
          simp only [pick, List.filterMap_cons, List.filterMap_nil, List.getElem?_cons_zero, List.getElem?_cons_succ, List.cons_append, List.nil_append] at h73
          subst r
          refine RetOk.mk (.tmp_bool rfl .nil) ?_
          exact ⟨rfl, h73⟩
      ·
        replace hR := ifF hR hc56
        refine Plan.cmpV (a := (((x_18 : Nat) : Int) : Int)) (b := (0 : Int)) (p := x_18 = 0) (v := false) rfl rfl rfl rfl icmp_eqN (decide_eq_false hc56) ?_
        refine Plan.pickTb rfl rfl rfl ?_
        refine Plan.move_bool rfl rfl ?_
        refine Plan.passed rfl ?_
        refine Plan.passed rfl ?_
        refine Plan.pickFb rfl rfl rfl ?_
        refine Plan.move_bool rfl rfl ?_
        refine Plan.passed rfl ?_
        refine Plan.passed rfl ?_
        refine Plan.pickFb rfl rfl rfl ?_
        refine Plan.move_bool rfl rfl ?_
        refine Plan.passed rfl ?_
        refine Plan.passed rfl ?_
        refine Plan.passed rfl ?_
        refine Plan.pickFb rfl rfl rfl ?_
        refine Plan.move_bool rfl rfl ?_
        refine Plan.passed rfl ?_
        refine Plan.passed rfl ?_
        refine Plan.passed rfl ?_
        refine Plan.pickFb rfl rfl rfl ?_
        refine Plan.move_bool rfl rfl ?_
        refine Plan.passed rfl ?_
        refine Plan.passed rfl ?_
        refine Plan.passed rfl ?_
        refine Plan.passed rfl ?_
        refine Plan.passed rfl ?_
        refine Plan.pickFb rfl rfl rfl ?_
        refine Plan.move_bool rfl rfl ?_
        refine Plan.passed rfl ?_
        refine Plan.passed rfl ?_
        refine Plan.passed rfl ?_
        refine Plan.passed rfl ?_
        refine Plan.passed rfl ?_
        refine Plan.pickFb rfl rfl rfl ?_
        refine Plan.assign_bool rfl rfl ?_
        refine Plan.nil ?_
        refine hK52 _ _ ?_; clear hK52
        refine W.ret (finR_ret ?_)
        have h74 := St.pickT (C := [_, _, _, _, _, _, _, _, _]) h53 [] (by decide)
        simp only [pick, List.filterMap_cons, List.filterMap_nil, List.getElem?_cons_zero, List.getElem?_cons_succ, List.cons_append, List.nil_append] at h74
        subst r
        refine RetOk.mk (.tmp_bool rfl .nil) ?_
        exact ⟨rfl, h74⟩
    ·
      replace hR := ifF hR hc55
      refine Plan.cmpV (a := (((x_10 : Nat) : Int) : Int)) (b := (0 : Int)) (p := x_10 = 0) (v := false) rfl rfl rfl rfl icmp_eqN (decide_eq_false hc55) ?_
      refine Plan.pickTb rfl rfl rfl ?_
      refine Plan.move_bool rfl rfl ?_
      refine Plan.passed rfl ?_
      refine Plan.passed rfl ?_
      refine Plan.pickFb rfl rfl rfl ?_
      refine Plan.move_bool rfl rfl ?_
      refine Plan.passed rfl ?_
      refine Plan.passed rfl ?_
      refine Plan.pickFb rfl rfl rfl ?_
      refine Plan.move_bool rfl rfl ?_
      refine Plan.passed rfl ?_
      refine Plan.passed rfl ?_
      refine Plan.pickFb rfl rfl rfl ?_
      refine Plan.move_bool rfl rfl ?_
      refine Plan.passed rfl ?_
      refine Plan.passed rfl ?_
      refine Plan.passed rfl ?_
      refine Plan.pickFb rfl rfl rfl ?_
      refine Plan.move_bool rfl rfl ?_
      refine Plan.passed rfl ?_
      refine Plan.passed rfl ?_
      refine Plan.passed rfl ?_
      refine Plan.pickFb rfl rfl rfl ?_
      refine Plan.move_bool rfl rfl ?_
      refine Plan.passed rfl ?_
      refine Plan.passed rfl ?_
      refine Plan.passed rfl ?_
      refine Plan.passed rfl ?_
      refine Plan.passed rfl ?_
      refine Plan.pickFb rfl rfl rfl ?_
      refine Plan.move_bool rfl rfl ?_
      refine Plan.passed rfl ?_
      refine Plan.passed rfl ?_
      refine Plan.passed rfl ?_
      refine Plan.passed rfl ?_
      refine Plan.passed rfl ?_
      refine Plan.pickFb rfl rfl rfl ?_
      refine Plan.assign_bool rfl rfl ?_
      refine Plan.nil ?_
      refine hK52 _ _ ?_; clear hK52
      refine W.ret (finR_ret ?_)
      have h75 := St.pickT (C := [_, _, _, _, _, _, _, _, _]) h53 [] (by decide)
      simp only [pick, List.filterMap_cons, List.filterMap_nil, List.getElem?_cons_zero, List.getElem?_cons_succ, List.cons_append, List.nil_append] at h75
      subst r
      refine RetOk.mk (.tmp_bool rfl .nil) ?_
      exact ⟨rfl, h75⟩
  ·
    replace hR := ifF hR hc54
    refine Plan.move_bool (b := false) rfl (congrArg Value.bool (Bool.eq_false_iff.2 hc54)) ?_
    refine Plan.move_bool rfl rfl ?_
    refine Plan.passed rfl ?_
    refine Plan.passed rfl ?_
    refine Plan.pickFb rfl rfl rfl ?_
    refine Plan.move_bool rfl rfl ?_
    refine Plan.passed rfl ?_
    refine Plan.passed rfl ?_
    refine Plan.pickFb rfl rfl rfl ?_
    refine Plan.move_bool rfl rfl ?_
    refine Plan.passed rfl ?_
    refine Plan.passed rfl ?_
    refine Plan.pickFb rfl rfl rfl ?_
    refine Plan.move_bool rfl rfl ?_
    refine Plan.passed rfl ?_
    refine Plan.passed rfl ?_
    refine Plan.pickFb rfl rfl rfl ?_
    refine Plan.move_bool rfl rfl ?_
    refine Plan.passed rfl ?_
    refine Plan.passed rfl ?_
    refine Plan.passed rfl ?_
    refine Plan.pickFb rfl rfl rfl ?_
    refine Plan.move_bool rfl rfl ?_
    refine Plan.passed rfl ?_
    refine Plan.passed rfl ?_
    refine Plan.passed rfl ?_
    refine Plan.pickFb rfl rfl rfl ?_
    refine Plan.move_bool rfl rfl ?_
    refine Plan.passed rfl ?_
    refine Plan.passed rfl ?_
    refine Plan.passed rfl ?_
    refine Plan.passed rfl ?_
    refine Plan.passed rfl ?_
    refine Plan.pickFb rfl rfl rfl ?_
    refine Plan.move_bool rfl rfl ?_
    refine Plan.passed rfl ?_
    refine Plan.passed rfl ?_
    refine Plan.passed rfl ?_
    refine Plan.passed rfl ?_
    refine Plan.passed rfl ?_
    refine Plan.pickFb rfl rfl rfl ?_
    refine Plan.assign_bool rfl rfl ?_
    refine Plan.nil ?_
    refine hK52 _ _ ?_; clear hK52
    refine W.ret (finR_ret ?_)
    have h76 := St.pickT (C := [_, _, _, _, _, _, _, _, _]) h53 [] (by decide)
    simp only [pick, List.filterMap_cons, List.filterMap_nil, List.getElem?_cons_zero, List.getElem?_cons_succ, List.cons_append, List.nil_append] at h76
    subst r
    refine RetOk.mk (.tmp_bool rfl .nil) ?_
    exact ⟨rfl, h76⟩

end Go.Proofs.YtjblfkmmbpcpaaaDoor
