/-
  WALKS of the package's functions, printed by this session's own program (auto.py).
-/
import Derived.Test.YtjdgbahjpdopbaaDoorProg
import Derived.Test.YtjdgbahjpdopbaaDoorLx9
import Derived.Test.YtjdgbahjpdopbaaDoorRChainExact
import Derived.Test.YtjdgbahjpdopbaaDoorEls
import Derived.Test.YtjdgbahjpdopbaaDoorWChain
import Derived.Test.YtjdgbahjpdopbaaDoorWLaw13
import Derived.Test.YtjdgbahjpdopbaaDoorWRef13
namespace Go.Proofs.YtjdgbahjpdopbaaDoor
set_option linter.unusedSimpArgs false
set_option linter.unusedVariables false
set_option linter.unusedSectionVars false
open Go Go.LW
theorem FChainExact.agg61 : aggT Tryd.prog 61 32 = true := by kernel_rfl
theorem FChainExact.sz61 : szT Tryd.prog 61 32 = true := by kernel_rfl
theorem FChainExact.z61 : zeroIs Tryd.prog 61 [(32, fun _ => VU .u8 0#8)] := zeroIs_agg (by kernel_rfl)
theorem FChainExact.call48 : callB Tryd.prog 48 = true := by kernel_rfl
theorem FChainExact.call38 : callB Tryd.prog 38 = true := by kernel_rfl
theorem FChainExact.arrI61 : arrIB Tryd.prog 61 32 .u8 = true := by kernel_rfl
theorem FChainExact.call39 : callB Tryd.prog 39 = true := by kernel_rfl
theorem FChainExact.call46 : callB Tryd.prog 46 = true := by kernel_rfl
theorem FChainExact.call47 : callB Tryd.prog 47 = true := by kernel_rfl
theorem FChainExact.call49 : callB Tryd.prog 49 = true := by kernel_rfl
theorem FChainExact.call50 : callB Tryd.prog 50 = true := by kernel_rfl

set_option maxRecDepth 8000 in
set_option maxHeartbeats 1000000 in
theorem lethelaw13_ChainExact_ok {B : Nat} {w0 w : World} {L : List Rg} {iG0 : Nat} (hG0 : L[iG0]? = some ⟨some 0, 0, 64, fun q => VU .u32 (K256 q), false⟩) {iG1 : Nat} (hG1 : L[iG1]? = some ⟨some 1, 0, 8, fun q => VU .u32 (H256 q), false⟩) {iG2 : Nat} (hG2 : L[iG2]? = some ⟨some 2, 0, 64, fun q => VU .u64 (K64 q), false⟩) {iG3 : Nat} (hG3 : L[iG3]? = some ⟨some 3, 0, 8, fun q => VU .u64 (H64 q), false⟩) {a1 : Nat → BitVec 8} {b2 : Nat → BitVec 8} {n_3 : Int} {r : Bool} (hR : lethelaw13_ChainExact a1 b2 n_3 r) (HST : St B w0 (L) w) :
    Calls Tryd.prog 15 #[AG [(32, fun q => VU .u8 (a1 q))], AG [(32, fun q => VU .u8 (b2 q))], .int .i64 n_3] w fun e w' => e = .returned (.bool r) ∧ St B w0 (L) w' := by
  refine W.enter 90 Tryd.func15 rfl rfl rfl ?_
  unfold lethelaw13_ChainExact at hR
  refine W.seq_k fun K4 hK4 => ?_
  refine W.regionT [(0, false), (1, false), (2, true)] (by kernel_rfl) ?_
  refine Plan.boxA HST rfl rfl PIn.nil fun b5 w5 hb5 h5 => ?_
  simp only [rngs, Nat.zero_add, Nat.reduceAdd, List.cons_append, List.nil_append] at h5
  refine Plan.boxA h5 rfl rfl PIn.nil fun b6 w6 hb6 h6 => ?_
  simp only [rngs, Nat.zero_add, Nat.reduceAdd, List.cons_append, List.nil_append] at h6
  refine Plan.assign_bool rfl rfl ?_
  refine Plan.nil ?_
  refine hK4 _ _ ?_; clear hK4
  refine W.seq_k fun K7 hK7 => ?_
  refine W.regionT [(0, true), (1, true), (2, false), (3, true), (4, true), (5, true), (6, false), (7, false), (8, false), (9, false)] (by kernel_rfl) ?_
  refine Plan.loadA1 h6 1 rfl rfl rfl FChainExact.agg61 ?_
  refine Plan.loadA1 h6 0 rfl rfl rfl FChainExact.agg61 ?_
  obtain ⟨x_9, x_10, hr8, hR⟩ := hR
  refine Plan.call (vs := [AG [(32, fun q => VU .u8 (a1 q))], AG [(32, fun q => VU .u8 (b2 q))]]) rfl FChainExact.call46 rfl (chain_Root_ok (iG0 := iG0 + 2) hG0 (iG1 := iG1 + 2) hG1 hr8 h6) ?_
  rintro _ w11 ⟨rfl, h11⟩
  refine ⟨_, rfl, .inr ⟨rfl, ?_⟩⟩
  refine Plan.move_tuple rfl rfl ?_
  refine Plan.extract_agg rfl rfl rfl ?_
  refine Plan.extract_agg rfl rfl rfl ?_
  refine Plan.alloc h11 rfl FChainExact.z61 PIn.nil fun b12 w12 hb12 h12 => ?_
  simp only [rngs, Nat.zero_add, Nat.reduceAdd, List.cons_append, List.nil_append] at h12
  refine Plan.alloc h12 rfl FChainExact.z61 PIn.nil fun b13 w13 hb13 h13 => ?_
  simp only [rngs, Nat.zero_add, Nat.reduceAdd, List.cons_append, List.nil_append] at h13
  refine Plan.storeA (f' := fun q => VU .u8 (x_9 q)) h13 1 rfl rfl rfl rfl (fun _ _ => rfl) FChainExact.sz61 rfl fun w14 h14 => ?_
  simp only [List.cons_append, List.nil_append, List.set_cons_zero, List.set_cons_succ] at h14
  refine Plan.storeA (f' := fun q => VU .u8 (x_10 q)) h14 0 rfl rfl rfl rfl (fun _ _ => rfl) FChainExact.sz61 rfl fun w15 h15 => ?_
  simp only [List.cons_append, List.nil_append, List.set_cons_zero, List.set_cons_succ] at h15
  refine Plan.nil ?_
  refine hK7 _ _ ?_; clear hK7
  refine W.seq_k fun K16 hK16 => ?_
  refine W.regionT [(0, true), (1, true), (2, false), (3, true), (4, true), (5, true), (6, false), (7, false), (8, false), (9, false)] (by kernel_rfl) ?_
  refine Plan.loadA1 h15 3 rfl rfl rfl FChainExact.agg61 ?_
  refine Plan.loadA1 h15 2 rfl rfl rfl FChainExact.agg61 ?_
  obtain ⟨x_18, x_19, hr17, hR⟩ := hR
  refine Plan.call (vs := [AG [(32, fun q => VU .u8 (a1 q))], AG [(32, fun q => VU .u8 (b2 q))]]) rfl FChainExact.call47 rfl (letheref13_Root_ok (iG2 := iG2 + 4) hG2 (iG3 := iG3 + 4) hG3 hr17 h15) ?_
  rintro _ w20 ⟨rfl, h20⟩
  refine ⟨_, rfl, .inr ⟨rfl, ?_⟩⟩
  refine Plan.move_tuple rfl rfl ?_
  refine Plan.extract_agg rfl rfl rfl ?_
  refine Plan.extract_agg rfl rfl rfl ?_
  refine Plan.alloc h20 rfl FChainExact.z61 PIn.nil fun b21 w21 hb21 h21 => ?_
  simp only [rngs, Nat.zero_add, Nat.reduceAdd, List.cons_append, List.nil_append] at h21
  refine Plan.alloc h21 rfl FChainExact.z61 PIn.nil fun b22 w22 hb22 h22 => ?_
  simp only [rngs, Nat.zero_add, Nat.reduceAdd, List.cons_append, List.nil_append] at h22
  refine Plan.storeA (f' := fun q => VU .u8 (x_18 q)) h22 1 rfl rfl rfl rfl (fun _ _ => rfl) FChainExact.sz61 rfl fun w23 h23 => ?_
  simp only [List.cons_append, List.nil_append, List.set_cons_zero, List.set_cons_succ] at h23
  refine Plan.storeA (f' := fun q => VU .u8 (x_19 q)) h23 0 rfl rfl rfl rfl (fun _ _ => rfl) FChainExact.sz61 rfl fun w24 h24 => ?_
  simp only [List.cons_append, List.nil_append, List.set_cons_zero, List.set_cons_succ] at h24
  refine Plan.nil ?_
  refine hK16 _ _ ?_; clear hK16
  refine W.seq_k fun K25 hK25 => ?_
  refine W.regionT [(0, true), (1, false), (2, true), (3, true), (4, true), (5, false), (6, false), (7, false), (8, false)] (by kernel_rfl) ?_
  refine Plan.loadA1 h24 5 rfl rfl rfl FChainExact.agg61 ?_
  obtain ⟨x_27, x_28, hr26, hR⟩ := hR
  refine Plan.call (vs := [AG [(32, fun q => VU .u8 (a1 q))]]) rfl FChainExact.call48 rfl (chain_Step_ok (iG0 := iG0 + 6) hG0 (iG1 := iG1 + 6) hG1 hr26 h24) ?_
  rintro _ w29 ⟨rfl, h29⟩
  refine ⟨_, rfl, .inr ⟨rfl, ?_⟩⟩
  refine Plan.move_tuple rfl rfl ?_
  refine Plan.extract_agg rfl rfl rfl ?_
  refine Plan.extract_agg rfl rfl rfl ?_
  refine Plan.alloc h29 rfl FChainExact.z61 PIn.nil fun b30 w30 hb30 h30 => ?_
  simp only [rngs, Nat.zero_add, Nat.reduceAdd, List.cons_append, List.nil_append] at h30
  refine Plan.alloc h30 rfl FChainExact.z61 PIn.nil fun b31 w31 hb31 h31 => ?_
  simp only [rngs, Nat.zero_add, Nat.reduceAdd, List.cons_append, List.nil_append] at h31
  refine Plan.storeA (f' := fun q => VU .u8 (x_27 q)) h31 1 rfl rfl rfl rfl (fun _ _ => rfl) FChainExact.sz61 rfl fun w32 h32 => ?_
  simp only [List.cons_append, List.nil_append, List.set_cons_zero, List.set_cons_succ] at h32
  refine Plan.storeA (f' := fun q => VU .u8 (x_28 q)) h32 0 rfl rfl rfl rfl (fun _ _ => rfl) FChainExact.sz61 rfl fun w33 h33 => ?_
  simp only [List.cons_append, List.nil_append, List.set_cons_zero, List.set_cons_succ] at h33
  refine Plan.nil ?_
  refine hK25 _ _ ?_; clear hK25
  refine W.seq_k fun K34 hK34 => ?_
  refine W.regionT [(0, true), (1, false), (2, true), (3, true), (4, true), (5, false), (6, false), (7, false), (8, false)] (by kernel_rfl) ?_
  refine Plan.loadA1 h33 7 rfl rfl rfl FChainExact.agg61 ?_
  obtain ⟨x_36, x_37, hr35, hR⟩ := hR
  refine Plan.call (vs := [AG [(32, fun q => VU .u8 (a1 q))]]) rfl FChainExact.call49 rfl (letheref13_Step_ok (iG2 := iG2 + 8) hG2 (iG3 := iG3 + 8) hG3 hr35 h33) ?_
  rintro _ w38 ⟨rfl, h38⟩
  refine ⟨_, rfl, .inr ⟨rfl, ?_⟩⟩
  refine Plan.move_tuple rfl rfl ?_
  refine Plan.extract_agg rfl rfl rfl ?_
  refine Plan.extract_agg rfl rfl rfl ?_
  refine Plan.alloc h38 rfl FChainExact.z61 PIn.nil fun b39 w39 hb39 h39 => ?_
  simp only [rngs, Nat.zero_add, Nat.reduceAdd, List.cons_append, List.nil_append] at h39
  refine Plan.alloc h39 rfl FChainExact.z61 PIn.nil fun b40 w40 hb40 h40 => ?_
  simp only [rngs, Nat.zero_add, Nat.reduceAdd, List.cons_append, List.nil_append] at h40
  refine Plan.storeA (f' := fun q => VU .u8 (x_36 q)) h40 1 rfl rfl rfl rfl (fun _ _ => rfl) FChainExact.sz61 rfl fun w41 h41 => ?_
  simp only [List.cons_append, List.nil_append, List.set_cons_zero, List.set_cons_succ] at h41
  refine Plan.storeA (f' := fun q => VU .u8 (x_37 q)) h41 0 rfl rfl rfl rfl (fun _ _ => rfl) FChainExact.sz61 rfl fun w42 h42 => ?_
  simp only [List.cons_append, List.nil_append, List.set_cons_zero, List.set_cons_succ] at h42
  refine Plan.nil ?_
  refine hK34 _ _ ?_; clear hK34
  refine W.seq_k fun K43 hK43 => ?_
  refine W.regionT [(0, true), (1, true), (2, false), (3, true), (4, true), (5, true), (6, true), (7, false), (8, false), (9, true), (10, true)] (by kernel_rfl) ?_
  refine Plan.loadA1 h42 8 rfl rfl rfl FChainExact.agg61 ?_
  refine Plan.move_int rfl rfl ?_
  obtain ⟨x_45, x_46, x_47, hr44, hR⟩ := hR
  refine Plan.call (vs := [AG [(32, fun q => VU .u8 (b2 q))], .int .i64 n_3]) rfl FChainExact.call38 rfl (chain_Ahead_ok (iG0 := iG0 + 10) hG0 (iG1 := iG1 + 10) hG1 hr44 h42) ?_
  rintro _ w53 ⟨ay1_48, py1_49, ny1_50, cy1_51, Fy1_52, rfl, h53, hf53_0⟩
  try dsimp only at hf53_0
  obtain rfl := hf53_0.hl
  refine ⟨_, rfl, .inr ⟨rfl, ?_⟩⟩
  refine Plan.move_tuple rfl rfl ?_
  refine Plan.extract_agg rfl rfl rfl ?_
  refine Plan.extract_slice rfl rfl rfl ?_
  refine Plan.extract_int rfl rfl rfl ?_
  refine Plan.alloc h53 rfl FChainExact.z61 PIn.nil fun b54 w54 hb54 h54 => ?_
  simp only [rngs, Nat.zero_add, Nat.reduceAdd, List.cons_append, List.nil_append] at h54
  refine Plan.storeA (f' := fun q => VU .u8 (x_45 q)) h54 0 rfl rfl rfl rfl (fun _ _ => rfl) FChainExact.sz61 rfl fun w55 h55 => ?_
  simp only [List.cons_append, List.nil_append, List.set_cons_zero, List.set_cons_succ] at h55
  refine Plan.assign_slice rfl rfl ?_
  refine Plan.assign_int rfl rfl ?_
  refine Plan.nil ?_
  refine hK43 _ _ ?_; clear hK43
  refine W.seq_k fun K56 hK56 => ?_
  refine W.regionT [(0, true), (1, true), (2, false), (3, true), (4, true), (5, true), (6, true), (7, false), (8, false), (9, true), (10, true)] (by kernel_rfl) ?_
  refine Plan.loadA1 h55 10 rfl rfl rfl FChainExact.agg61 ?_
  refine Plan.move_int rfl rfl ?_
  obtain ⟨x_58, x_59, x_60, hr57, hR⟩ := hR
  refine Plan.call (vs := [AG [(32, fun q => VU .u8 (b2 q))], .int .i64 n_3]) rfl FChainExact.call50 rfl (letheref13_Ahead_ok (iG2 := iG2 + 12) hG2 (iG3 := iG3 + 12) hG3 hr57 h55) ?_
  rintro _ w66 ⟨ay1_61, py1_62, ny1_63, cy1_64, Fy1_65, rfl, h66, hf66_0⟩
  try dsimp only at hf66_0
  obtain rfl := hf66_0.hl
  refine ⟨_, rfl, .inr ⟨rfl, ?_⟩⟩
  refine Plan.move_tuple rfl rfl ?_
  refine Plan.extract_agg rfl rfl rfl ?_
  refine Plan.extract_slice rfl rfl rfl ?_
  refine Plan.extract_int rfl rfl rfl ?_
  refine Plan.alloc h66 rfl FChainExact.z61 PIn.nil fun b67 w67 hb67 h67 => ?_
  simp only [rngs, Nat.zero_add, Nat.reduceAdd, List.cons_append, List.nil_append] at h67
  refine Plan.storeA (f' := fun q => VU .u8 (x_58 q)) h67 0 rfl rfl rfl rfl (fun _ _ => rfl) FChainExact.sz61 rfl fun w68 h68 => ?_
  simp only [List.cons_append, List.nil_append, List.set_cons_zero, List.set_cons_succ] at h68
  refine Plan.assign_slice rfl rfl ?_
  refine Plan.assign_int rfl rfl ?_
  refine Plan.nil ?_
  refine hK56 _ _ ?_; clear hK56
  refine W.seq_k fun K69 hK69 => ?_
  refine W.regionT [(0, true), (1, true), (2, true), (3, true), (4, true), (5, true), (6, true), (7, true), (8, true), (9, true), (10, true), (11, true), (12, true), (13, true), (14, true), (15, true), (16, true), (17, true), (18, true), (19, true), (20, true), (21, true), (22, true), (23, true), (24, true), (25, true), (26, true), (27, true), (28, true), (29, true), (30, true), (31, false), (32, true), (33, true)] (by kernel_rfl) ?_
  refine Plan.loadA1 h68 11 rfl rfl rfl FChainExact.agg61 ?_
  refine Plan.loadA1 h68 9 rfl rfl rfl FChainExact.agg61 ?_
  by_cases hc70 : (eqB 32 x_9 x_18) = true
  ·
    replace hR := ifT hR hc70
    refine Plan.eqArrV (b := true) FChainExact.arrI61 rfl rfl rfl hc70 ?_
    refine Plan.move_bool rfl rfl ?_
    refine Plan.loadA1 h68 10 rfl rfl rfl FChainExact.agg61 ?_
    refine Plan.loadA1 h68 8 rfl rfl rfl FChainExact.agg61 ?_
    by_cases hc71 : (eqB 32 x_10 x_19) = true
    ·
      replace hR := ifT hR hc71
      refine Plan.eqArrV (b := true) FChainExact.arrI61 rfl rfl rfl hc71 ?_
      refine Plan.pickTb rfl rfl rfl ?_
      refine Plan.move_bool rfl rfl ?_
      refine Plan.loadA1 h68 7 rfl rfl rfl FChainExact.agg61 ?_
      refine Plan.loadA1 h68 5 rfl rfl rfl FChainExact.agg61 ?_
      by_cases hc72 : (eqB 32 x_27 x_36) = true
      ·
        replace hR := ifT hR hc72
        refine Plan.eqArrV (b := true) FChainExact.arrI61 rfl rfl rfl hc72 ?_
        refine Plan.pickTb rfl rfl rfl ?_
        refine Plan.move_bool rfl rfl ?_
        refine Plan.loadA1 h68 6 rfl rfl rfl FChainExact.agg61 ?_
        refine Plan.loadA1 h68 4 rfl rfl rfl FChainExact.agg61 ?_
        by_cases hc73 : (eqB 32 x_28 x_37) = true
        ·
          replace hR := ifT hR hc73
          refine Plan.eqArrV (b := true) FChainExact.arrI61 rfl rfl rfl hc73 ?_
          refine Plan.pickTb rfl rfl rfl ?_
          refine Plan.move_bool rfl rfl ?_
          refine Plan.loadA1 h68 2 rfl rfl rfl FChainExact.agg61 ?_
          refine Plan.loadA1 h68 0 rfl rfl rfl FChainExact.agg61 ?_
          by_cases hc74 : (eqB 32 x_45 x_58) = true
          ·
            replace hR := ifT hR hc74
            refine Plan.eqArrV (b := true) FChainExact.arrI61 rfl rfl rfl hc74 ?_
            refine Plan.pickTb rfl rfl rfl ?_
            refine Plan.move_bool rfl rfl ?_
            refine Plan.move_int rfl rfl ?_
            refine Plan.move_int rfl rfl ?_
            by_cases hc75 : x_47 = x_60
            ·
              replace hR := ifT hR hc75
              refine Plan.cmpV (a := (((x_47 : Nat) : Int) : Int)) (b := (((x_60 : Nat) : Int) : Int)) (p := x_47 = x_60) (v := true) rfl rfl rfl rfl icmp_eqN (decide_eq_true hc75) ?_
              refine Plan.pickTb rfl rfl rfl ?_
              refine Plan.move_bool rfl rfl ?_
              refine Plan.move_slice rfl rfl ?_
              refine Plan.move_slice rfl rfl ?_
              obtain ⟨x_77, hr76, hR⟩ := hR
              refine Plan.call (vs := [.slice ay1_48 x_46.length cy1_51, .slice ay1_61 x_59.length cy1_64]) rfl FChainExact.call39 rfl (lethelaw13_sameKeys_ok (by exact (LO.lvf D61_flat hf53_0 3 rfl)) (by exact (LO.lvf D61_flat hf66_0 1 rfl)) hr76 h68) ?_
              rintro _ w78 ⟨rfl, h78⟩
              refine ⟨_, rfl, .inl ⟨PIn.keep (PIn.cons 0 rfl (PIn.cons 2 rfl (PIn.cons 4 rfl (PIn.cons 6 rfl (PIn.cons 5 rfl (PIn.cons 7 rfl (PIn.cons 8 rfl (PIn.cons 10 rfl (PIn.cons 9 rfl (PIn.cons 11 rfl PIn.nil)))))))))) h78, ?_⟩⟩
              refine Plan.pickTb rfl rfl rfl ?_
              refine Plan.assign_bool rfl rfl ?_
              refine Plan.nil ?_
              refine hK69 _ _ ?_; clear hK69
              refine W.ret (finR_ret ?_)
              have h79 := St.pickT (C := [_, _, _, _, _, _, _, _, _, _, _, _, _, _]) h78 [] (by decide)
              simp only [pick, List.filterMap_cons, List.filterMap_nil, List.getElem?_cons_zero, List.getElem?_cons_succ, List.cons_append, List.nil_append] at h79
              subst r
              refine RetOk.mk (.tmp_bool rfl .nil) ?_
              exact ⟨rfl, h79⟩
            ·
              replace hR := ifF hR hc75
              refine Plan.cmpV (a := (((x_47 : Nat) : Int) : Int)) (b := (((x_60 : Nat) : Int) : Int)) (p := x_47 = x_60) (v := false) rfl rfl rfl rfl icmp_eqN (decide_eq_false hc75) ?_
              refine Plan.pickTb rfl rfl rfl ?_
              refine Plan.move_bool rfl rfl ?_
              refine Plan.passed rfl ?_
              refine Plan.passed rfl ?_
              refine Plan.passed rfl ?_
              refine Plan.pickFb rfl rfl rfl ?_
              refine Plan.assign_bool rfl rfl ?_
              refine Plan.nil ?_
              refine hK69 _ _ ?_; clear hK69
              refine W.ret (finR_ret ?_)
              have h80 := St.pickT (C := [_, _, _, _, _, _, _, _, _, _, _, _, _, _]) h68 [] (by decide)
              simp only [pick, List.filterMap_cons, List.filterMap_nil, List.getElem?_cons_zero, List.getElem?_cons_succ, List.cons_append, List.nil_append] at h80
              subst r
              refine RetOk.mk (.tmp_bool rfl .nil) ?_
              exact ⟨rfl, h80⟩
          ·
            replace hR := ifF hR hc74
            refine Plan.eqArrV (b := false) FChainExact.arrI61 rfl rfl rfl (Bool.eq_false_iff.2 hc74) ?_
            refine Plan.pickTb rfl rfl rfl ?_
            refine Plan.move_bool rfl rfl ?_
            refine Plan.passed rfl ?_
            refine Plan.passed rfl ?_
            refine Plan.passed rfl ?_
            refine Plan.pickFb rfl rfl rfl ?_
            refine Plan.move_bool rfl rfl ?_
            refine Plan.passed rfl ?_
            refine Plan.passed rfl ?_
            refine Plan.passed rfl ?_
            refine Plan.pickFb rfl rfl rfl ?_
            refine Plan.assign_bool rfl rfl ?_
            refine Plan.nil ?_
            refine hK69 _ _ ?_; clear hK69
            refine W.ret (finR_ret ?_)
            have h81 := St.pickT (C := [_, _, _, _, _, _, _, _, _, _, _, _, _, _]) h68 [] (by decide)
            simp only [pick, List.filterMap_cons, List.filterMap_nil, List.getElem?_cons_zero, List.getElem?_cons_succ, List.cons_append, List.nil_append] at h81
            subst r
            refine RetOk.mk (.tmp_bool rfl .nil) ?_
            exact ⟨rfl, h81⟩
        ·
          replace hR := ifF hR hc73
          refine Plan.eqArrV (b := false) FChainExact.arrI61 rfl rfl rfl (Bool.eq_false_iff.2 hc73) ?_
          refine Plan.pickTb rfl rfl rfl ?_
          refine Plan.move_bool rfl rfl ?_
          refine Plan.passed rfl ?_
          refine Plan.passed rfl ?_
          refine Plan.passed rfl ?_
          refine Plan.pickFb rfl rfl rfl ?_
          refine Plan.move_bool rfl rfl ?_
          refine Plan.passed rfl ?_
          refine Plan.passed rfl ?_
          refine Plan.passed rfl ?_
          refine Plan.pickFb rfl rfl rfl ?_
          refine Plan.move_bool rfl rfl ?_
          refine Plan.passed rfl ?_
          refine Plan.passed rfl ?_
          refine Plan.passed rfl ?_
          refine Plan.pickFb rfl rfl rfl ?_
          refine Plan.assign_bool rfl rfl ?_
          refine Plan.nil ?_
          refine hK69 _ _ ?_; clear hK69
          refine W.ret (finR_ret ?_)
          have h82 := St.pickT (C := [_, _, _, _, _, _, _, _, _, _, _, _, _, _]) h68 [] (by decide)
          simp only [pick, List.filterMap_cons, List.filterMap_nil, List.getElem?_cons_zero, List.getElem?_cons_succ, List.cons_append, List.nil_append] at h82
          subst r
          refine RetOk.mk (.tmp_bool rfl .nil) ?_
          exact ⟨rfl, h82⟩
      ·
        replace hR := ifF hR hc72
        refine Plan.eqArrV (b := false) FChainExact.arrI61 rfl rfl rfl (Bool.eq_false_iff.2 hc72) ?_
        refine Plan.pickTb rfl rfl rfl ?_
        refine Plan.move_bool rfl rfl ?_
        refine Plan.passed rfl ?_
        refine Plan.passed rfl ?_
        refine Plan.passed rfl ?_
        refine Plan.pickFb rfl rfl rfl ?_
        refine Plan.move_bool rfl rfl ?_
        refine Plan.passed rfl ?_
        refine Plan.passed rfl ?_
        refine Plan.passed rfl ?_
        refine Plan.pickFb rfl rfl rfl ?_
        refine Plan.move_bool rfl rfl ?_
        refine Plan.passed rfl ?_
        refine Plan.passed rfl ?_
        refine Plan.passed rfl ?_
        refine Plan.pickFb rfl rfl rfl ?_
        refine Plan.move_bool rfl rfl ?_
        refine Plan.passed rfl ?_
        refine Plan.passed rfl ?_
        refine Plan.passed rfl ?_
        refine Plan.pickFb rfl rfl rfl ?_
        refine Plan.assign_bool rfl rfl ?_
        refine Plan.nil ?_
        refine hK69 _ _ ?_; clear hK69
        refine W.ret (finR_ret ?_)
        have h83 := St.pickT (C := [_, _, _, _, _, _, _, _, _, _, _, _, _, _]) h68 [] (by decide)
        simp only [pick, List.filterMap_cons, List.filterMap_nil, List.getElem?_cons_zero, List.getElem?_cons_succ, List.cons_append, List.nil_append] at h83
        subst r
        refine RetOk.mk (.tmp_bool rfl .nil) ?_
        exact ⟨rfl, h83⟩
    ·
      replace hR := ifF hR hc71
      refine Plan.eqArrV (b := false) FChainExact.arrI61 rfl rfl rfl (Bool.eq_false_iff.2 hc71) ?_
      refine Plan.pickTb rfl rfl rfl ?_
      refine Plan.move_bool rfl rfl ?_
      refine Plan.passed rfl ?_
      refine Plan.passed rfl ?_
      refine Plan.passed rfl ?_
      refine Plan.pickFb rfl rfl rfl ?_
      refine Plan.move_bool rfl rfl ?_
      refine Plan.passed rfl ?_
      refine Plan.passed rfl ?_
      refine Plan.passed rfl ?_
      refine Plan.pickFb rfl rfl rfl ?_
      refine Plan.move_bool rfl rfl ?_
      refine Plan.passed rfl ?_
      refine Plan.passed rfl ?_
      refine Plan.passed rfl ?_
      refine Plan.pickFb rfl rfl rfl ?_
      refine Plan.move_bool rfl rfl ?_
      refine Plan.passed rfl ?_
      refine Plan.passed rfl ?_
      refine Plan.passed rfl ?_
      refine Plan.pickFb rfl rfl rfl ?_
      refine Plan.move_bool rfl rfl ?_
      refine Plan.passed rfl ?_
      refine Plan.passed rfl ?_
      refine Plan.passed rfl ?_
      refine Plan.pickFb rfl rfl rfl ?_
      refine Plan.assign_bool rfl rfl ?_
      refine Plan.nil ?_
      refine hK69 _ _ ?_; clear hK69
      refine W.ret (finR_ret ?_)
      have h84 := St.pickT (C := [_, _, _, _, _, _, _, _, _, _, _, _, _, _]) h68 [] (by decide)
      simp only [pick, List.filterMap_cons, List.filterMap_nil, List.getElem?_cons_zero, List.getElem?_cons_succ, List.cons_append, List.nil_append] at h84
      subst r
      refine RetOk.mk (.tmp_bool rfl .nil) ?_
      exact ⟨rfl, h84⟩
  ·
    replace hR := ifF hR hc70
    refine Plan.eqArrV (b := false) FChainExact.arrI61 rfl rfl rfl (Bool.eq_false_iff.2 hc70) ?_
    refine Plan.move_bool rfl rfl ?_
    refine Plan.passed rfl ?_
    refine Plan.passed rfl ?_
    refine Plan.passed rfl ?_
    refine Plan.pickFb rfl rfl rfl ?_
    refine Plan.move_bool rfl rfl ?_
    refine Plan.passed rfl ?_
    refine Plan.passed rfl ?_
    refine Plan.passed rfl ?_
    refine Plan.pickFb rfl rfl rfl ?_
    refine Plan.move_bool rfl rfl ?_
    refine Plan.passed rfl ?_
    refine Plan.passed rfl ?_
    refine Plan.passed rfl ?_
    refine Plan.pickFb rfl rfl rfl ?_
    refine Plan.move_bool rfl rfl ?_
    refine Plan.passed rfl ?_
    refine Plan.passed rfl ?_
    refine Plan.passed rfl ?_
    refine Plan.pickFb rfl rfl rfl ?_
    refine Plan.move_bool rfl rfl ?_
    refine Plan.passed rfl ?_
    refine Plan.passed rfl ?_
    refine Plan.passed rfl ?_
    refine Plan.pickFb rfl rfl rfl ?_
    refine Plan.move_bool rfl rfl ?_
    refine Plan.passed rfl ?_
    refine Plan.passed rfl ?_
    refine Plan.passed rfl ?_
    refine Plan.pickFb rfl rfl rfl ?_
    refine Plan.assign_bool rfl rfl ?_
    refine Plan.nil ?_
    refine hK69 _ _ ?_; clear hK69
    refine W.ret (finR_ret ?_)
    have h85 := St.pickT (C := [_, _, _, _, _, _, _, _, _, _, _, _, _, _]) h68 [] (by decide)
    simp only [pick, List.filterMap_cons, List.filterMap_nil, List.getElem?_cons_zero, List.getElem?_cons_succ, List.cons_append, List.nil_append] at h85
    subst r
    refine RetOk.mk (.tmp_bool rfl .nil) ?_
    exact ⟨rfl, h85⟩

end Go.Proofs.YtjdgbahjpdopbaaDoor
