/-
  WALKS of the package's functions, printed by this session's own program (auto.py).
-/
import Derived.Test.YtjblfkmmbpcpaaaProg
import Derived.Test.YtjblfkmmbpcpaaaLx6
import Derived.Test.YtjblfkmmbpcpaaaRFieldBytes
import Derived.Test.YtjblfkmmbpcpaaaWField
import Derived.Test.YtjblfkmmbpcpaaaWLaw06
namespace Go.Proofs.Ytjblfkmmbpcpaaa
set_option linter.unusedSimpArgs false
set_option linter.unusedVariables false
set_option linter.unusedSectionVars false
open Go Go.LW
theorem FFieldBytes.agg23 : aggT Try.prog 23 32 = true := by kernel_rfl
theorem FFieldBytes.z28 : zeroIs Try.prog 28 [(5, fun _ => VU .u64 0#64)] := zeroIs_agg (by kernel_rfl)
theorem FFieldBytes.mixed : Try.prog.follows .mixedOrders = true := by kernel_rfl
theorem FFieldBytes.arr23 : arrB Try.prog 23 32 1 = true := by kernel_rfl
theorem FFieldBytes.sc5 : scalarT Try.prog 5 = true := by kernel_rfl
theorem FFieldBytes.some5 : (Try.prog.underlying 5).isSome = true := by kernel_rfl
theorem FFieldBytes.sz28 : szT Try.prog 28 5 = true := by kernel_rfl
theorem FFieldBytes.agg28 : aggT Try.prog 28 5 = true := by kernel_rfl
theorem FFieldBytes.call6 : callB Try.prog 6 = true := by kernel_rfl
theorem FFieldBytes.z23 : zeroIs Try.prog 23 [(32, fun _ => VU .u8 0#8)] := zeroIs_agg (by kernel_rfl)
theorem FFieldBytes.sz5 : szT Try.prog 5 1 = true := by kernel_rfl
theorem FFieldBytes.sz23 : szT Try.prog 23 32 = true := by kernel_rfl
theorem FFieldBytes.call7 : callB Try.prog 7 = true := by kernel_rfl
theorem FFieldBytes.arrI23 : arrIB Try.prog 23 32 .u8 = true := by kernel_rfl
theorem FFieldBytes.call8 : callB Try.prog 8 = true := by kernel_rfl
theorem FFieldBytes.bool4 : boolB Try.prog 4 = true := by kernel_rfl
theorem FFieldBytes.call9 : callB Try.prog 9 = true := by kernel_rfl
theorem FFieldBytes.call10 : callB Try.prog 10 = true := by kernel_rfl
theorem FFieldBytes.u35 : Try.prog.underlying 35 = some (.int .u32) := by kernel_rfl
theorem FFieldBytes.call11 : callB Try.prog 11 = true := by kernel_rfl
theorem FFieldBytes.call12 : callB Try.prog 12 = true := by kernel_rfl

set_option maxRecDepth 8000 in
set_option maxHeartbeats 1000000 in
theorem lethelaw06_FieldBytes_ok {B : Nat} {w0 w : World} {L : List Rg} {k1 : Nat → BitVec 8} {n_2 : BitVec 8} {bit3 : Int} {r : Bool} (hR : lethelaw06_FieldBytes k1 n_2 bit3 r) (HST : St B w0 (L) w) :
    Calls Try.prog 3 #[AG [(32, fun q => VU .u8 (k1 q))], VU .u8 n_2, .int .i64 bit3] w fun e w' => e = .returned (.bool r) ∧ St B w0 (L) w' := by
  refine W.enter 116 Try.func3 rfl rfl rfl ?_
  unfold lethelaw06_FieldBytes at hR
  refine W.seq_k fun K4 hK4 => ?_
  refine W.regionT [(0, false), (1, true)] (by kernel_rfl) ?_
  refine Plan.boxA HST rfl rfl PIn.nil fun b5 w5 hb5 h5 => ?_
  simp only [rngs, Nat.zero_add, Nat.reduceAdd, List.cons_append, List.nil_append] at h5
  refine Plan.assign_bool rfl rfl ?_
  refine Plan.nil ?_
  refine hK4 _ _ ?_; clear hK4
  refine W.seq_k fun K6 hK6 => ?_
  refine W.regionT [(0, true), (1, false), (2, false), (3, false)] (by kernel_rfl) ?_
  refine Plan.loadA1 h5 0 rfl rfl rfl FFieldBytes.agg23 ?_
  obtain ⟨x_8, hr7, hR⟩ := hR
  refine Plan.call (vs := [AG [(32, fun q => VU .u8 (k1 q))]]) rfl FFieldBytes.call6 rfl (field_Read_ok  hr7 h5) ?_
  rintro _ w9 ⟨rfl, h9⟩
  refine ⟨_, rfl, .inr ⟨rfl, ?_⟩⟩
  refine Plan.alloc h9 rfl FFieldBytes.z28 PIn.nil fun b10 w10 hb10 h10 => ?_
  simp only [rngs, Nat.zero_add, Nat.reduceAdd, List.cons_append, List.nil_append] at h10
  refine Plan.storeA (f' := fun q => VU .u64 (x_8 q)) h10 0 rfl rfl rfl rfl (fun _ _ => rfl) FFieldBytes.sz28 rfl fun w11 h11 => ?_
  simp only [List.cons_append, List.nil_append, List.set_cons_zero, List.set_cons_succ] at h11
  refine Plan.nil ?_
  refine hK6 _ _ ?_; clear hK6
  refine W.seq_k fun K12 hK12 => ?_
  refine W.regionT [(0, true), (1, false), (2, false), (3, false)] (by kernel_rfl) ?_
  refine Plan.loadA1 h11 0 rfl rfl rfl FFieldBytes.agg28 ?_
  obtain ⟨x_14, hr13, hR⟩ := hR
  refine Plan.call (vs := [AG [(5, fun q => VU .u64 (x_8 q))]]) rfl FFieldBytes.call7 rfl (field_Elem_Bytes_ok  hr13 h11) ?_
  rintro _ w15 ⟨rfl, h15⟩
  refine ⟨_, rfl, .inr ⟨rfl, ?_⟩⟩
  refine Plan.alloc h15 rfl FFieldBytes.z23 PIn.nil fun b16 w16 hb16 h16 => ?_
  simp only [rngs, Nat.zero_add, Nat.reduceAdd, List.cons_append, List.nil_append] at h16
  refine Plan.storeA (f' := fun q => VU .u8 (x_14 q)) h16 0 rfl rfl rfl rfl (fun _ _ => rfl) FFieldBytes.sz23 rfl fun w17 h17 => ?_
  simp only [List.cons_append, List.nil_append, List.set_cons_zero, List.set_cons_succ] at h17
  refine Plan.nil ?_
  refine hK12 _ _ ?_; clear hK12
  refine W.seq_k fun K18 hK18 => ?_
  refine W.seq_k fun K41 hK41 => ?_
  refine W.regionD FFieldBytes.mixed [(0, true), (1, false), (2, true), (3, true), (4, true), (5, true), (6, true), (7, true), (8, true), (9, true), (10, true), (11, true), (12, true), (13, false), (14, true), (15, true), (16, true), (17, true), (19, true), (18, false), (20, false), (21, true), (22, true)] (by kernel_rfl) ?_
  have h42 := h17.drew
  refine Plan.loadA1 h42 0 rfl rfl rfl FFieldBytes.agg23 ?_
  obtain ⟨x_44, hr43, hR⟩ := hR
  refine Plan.call (vs := [AG [(32, fun q => VU .u8 (x_14 q))]]) rfl FFieldBytes.call8 rfl (field_Fits_ok  hr43 h42) ?_
  rintro _ w45 ⟨rfl, h45⟩
  refine ⟨_, rfl, .inr ⟨rfl, ?_⟩⟩
  by_cases hc46 : x_44 = true
  ·
    replace hR := ifT hR hc46
    obtain rfl : x_44 = true := hc46
    refine Plan.notT rfl rfl ?_
    refine Plan.move_bool rfl rfl ?_
    refine Plan.idxArr1 (j := 31) FFieldBytes.arr23 rfl rfl rfl (by omega) ?_
    refine Plan.load1 (j := 31) h45 0 rfl rfl rfl (by omega) FFieldBytes.sc5 ?_
    by_cases hc47 : (127#8).toNat < (x_14 31).toNat
    ·
      replace hR := ifT hR hc47
      refine Plan.cmpV (a := ((x_14 31).toNat : Int)) (b := ((127#8).toNat : Int)) (p := (127#8).toNat < (x_14 31).toNat) (v := true) rfl rfl rfl rfl icmp_gtN (decide_eq_true hc47) ?_
      refine Plan.pickFb rfl rfl rfl ?_
      refine Plan.move_bool rfl rfl ?_
      refine Plan.passed rfl ?_
      refine Plan.passed rfl ?_
      refine Plan.passed rfl ?_
      refine Plan.passed rfl ?_
      refine Plan.passed rfl ?_
      refine Plan.passed rfl ?_
      refine Plan.pickTb rfl rfl rfl ?_
      refine Plan.move_bool rfl rfl ?_
      refine Plan.passed rfl ?_
      refine Plan.passed rfl ?_
      refine Plan.passed rfl ?_
      refine Plan.passed rfl ?_
      refine Plan.passed rfl ?_
      refine Plan.pickTb rfl rfl rfl ?_
      refine Plan.nil ?_
      refine hK41 _ _ ?_; clear hK41
      refine W.condT rfl ?_
      refine W.seq_k fun K48 hK48 => ?_
      refine W.regionT [(0, true)] (by kernel_rfl) ?_
      refine Plan.assign_bool rfl rfl ?_
      refine Plan.nil ?_
      refine hK48 _ _ ?_; clear hK48
      refine W.ret (thenR_ret (finR_ret ?_))
      have h49 := St.pickT (C := [_, _, _]) h45 [] (by decide)
      simp only [pick, List.filterMap_cons, List.filterMap_nil, List.getElem?_cons_zero, List.getElem?_cons_succ, List.cons_append, List.nil_append] at h49
      subst r
      refine RetOk.mk (.tmp_bool rfl .nil) ?_
      exact ⟨rfl, h49⟩
    ·
      replace hR := ifF hR hc47
      refine Plan.cmpV (a := ((x_14 31).toNat : Int)) (b := ((127#8).toNat : Int)) (p := (127#8).toNat < (x_14 31).toNat) (v := false) rfl rfl rfl rfl icmp_gtN (decide_eq_false hc47) ?_
      refine Plan.pickFb rfl rfl rfl ?_
      refine Plan.move_bool rfl rfl ?_
      refine Plan.loadA1 h45 0 rfl rfl rfl FFieldBytes.agg23 ?_
      refine Plan.loadA1 h45 2 rfl rfl rfl FFieldBytes.agg23 ?_
      refine Plan.eqArrV (b := (eqB 32 x_14 k1)) FFieldBytes.arrI23 rfl rfl rfl rfl ?_
      refine Plan.loadA1 h45 2 rfl rfl rfl FFieldBytes.agg23 ?_
      obtain ⟨x_51, hr50, hR⟩ := hR
      refine Plan.call (vs := [AG [(32, fun q => VU .u8 (k1 q))]]) rfl FFieldBytes.call8 rfl (field_Fits_ok  hr50 h45) ?_
      rintro _ w52 ⟨rfl, h52⟩
      refine ⟨_, rfl, .inl ⟨PIn.keep (PIn.cons 2 rfl (PIn.cons 2 rfl (PIn.cons 0 rfl (PIn.cons 0 rfl PIn.nil)))) h52, ?_⟩⟩
      by_cases hc53 : ((eqB 32 x_14 k1) != x_51) = true
      ·
        replace hR := ifT hR hc53
        refine Plan.neBoolV (v := true) FFieldBytes.bool4 rfl rfl rfl hc53 ?_
        refine Plan.pickFb rfl rfl rfl ?_
        refine Plan.move_bool rfl rfl ?_
        refine Plan.passed rfl ?_
        refine Plan.passed rfl ?_
        refine Plan.passed rfl ?_
        refine Plan.passed rfl ?_
        refine Plan.passed rfl ?_
        refine Plan.pickTb rfl rfl rfl ?_
        refine Plan.nil ?_
        refine hK41 _ _ ?_; clear hK41
        refine W.condT rfl ?_
        refine W.seq_k fun K54 hK54 => ?_
        refine W.regionT [(0, true)] (by kernel_rfl) ?_
        refine Plan.assign_bool rfl rfl ?_
        refine Plan.nil ?_
        refine hK54 _ _ ?_; clear hK54
        refine W.ret (thenR_ret (finR_ret ?_))
        have h55 := St.pickT (C := [_, _, _]) h52 [] (by decide)
        simp only [pick, List.filterMap_cons, List.filterMap_nil, List.getElem?_cons_zero, List.getElem?_cons_succ, List.cons_append, List.nil_append] at h55
        subst r
        refine RetOk.mk (.tmp_bool rfl .nil) ?_
        exact ⟨rfl, h55⟩
      ·
        replace hR := ifF hR hc53
        refine Plan.neBoolV (v := false) FFieldBytes.bool4 rfl rfl rfl (Bool.eq_false_iff.2 hc53) ?_
        refine Plan.pickFb rfl rfl rfl ?_
        refine Plan.move_bool rfl rfl ?_
        refine Plan.loadA1 h52 0 rfl rfl rfl FFieldBytes.agg23 ?_
        refine Plan.loadA1 h52 1 rfl rfl rfl FFieldBytes.agg28 ?_
        obtain ⟨x_57, hr56, hR⟩ := hR
        refine Plan.call (vs := [AG [(32, fun q => VU .u8 (x_14 q))]]) rfl FFieldBytes.call6 rfl (field_Read_ok  hr56 h52) ?_
        rintro _ w58 ⟨rfl, h58⟩
        refine ⟨_, rfl, .inl ⟨PIn.keep (PIn.cons 1 rfl (PIn.cons 0 rfl (PIn.cons 2 rfl (PIn.cons 2 rfl (PIn.cons 0 rfl (PIn.cons 0 rfl PIn.nil)))))) h58, ?_⟩⟩
        obtain ⟨x_60, hr59, hR⟩ := hR
        refine Plan.call (vs := [AG [(5, fun q => VU .u64 (x_57 q))], AG [(5, fun q => VU .u64 (x_8 q))]]) rfl FFieldBytes.call9 rfl (field_Elem_Equal_ok  hr59 h58) ?_
        rintro _ w61 ⟨rfl, h61⟩
        refine ⟨_, rfl, .inl ⟨PIn.keep (PIn.cons 1 rfl (PIn.cons 0 rfl (PIn.cons 2 rfl (PIn.cons 2 rfl (PIn.cons 0 rfl (PIn.cons 0 rfl PIn.nil)))))) h61, ?_⟩⟩
        refine Plan.not rfl rfl ?_
        refine Plan.pickFb rfl rfl rfl ?_
        refine Plan.nil ?_
        refine hK41 _ _ ?_; clear hK41
        by_cases hc62 : x_60 = true
        ·
          replace hR := ifT hR hc62
          refine W.condF (congrArg Value.bool (congrArg Bool.not hc62)) ?_
          refine W.skip ?_
          refine hK18 _ _ ?_; clear hK18
          refine W.seq_k fun K63 hK63 => ?_
          refine W.regionT [(0, true), (1, false), (2, false)] (by kernel_rfl) ?_
          refine Plan.loadA1 h61 2 rfl rfl rfl FFieldBytes.agg23 ?_
          refine Plan.alloc h61 rfl FFieldBytes.z23 (PIn.cons 2 rfl PIn.nil) fun b64 w64 hb64 h64 => ?_
          simp only [rngs, Nat.zero_add, Nat.reduceAdd, List.cons_append, List.nil_append] at h64
          refine Plan.storeA (f' := fun q => VU .u8 (k1 q)) h64 0 rfl rfl rfl rfl (fun _ _ => rfl) FFieldBytes.sz23 rfl fun w65 h65 => ?_
          simp only [List.cons_append, List.nil_append, List.set_cons_zero, List.set_cons_succ] at h65
          refine Plan.nil ?_
          refine hK63 _ _ ?_; clear hK63
          refine W.seq_k fun K66 hK66 => ?_
          refine W.regionT [(0, true), (1, true), (2, true), (3, true), (4, false)] (by kernel_rfl) ?_
          refine Plan.idxArr1 (j := 31) FFieldBytes.arr23 rfl rfl rfl (by omega) ?_
          refine Plan.load1 (j := 31) h65 0 rfl rfl rfl (by omega) FFieldBytes.sc5 ?_
          refine Plan.xorU .u8 (X := (k1 31)) (Y := 128#8) rfl rfl rfl ?_
          refine Plan.idxArr1 (j := 31) FFieldBytes.arr23 rfl rfl rfl (by omega) ?_
          refine Plan.storeU (j := 31) (X := ((k1 31) ^^^ (128#8))) h65 0 rfl rfl rfl rfl (by omega) FFieldBytes.sz5 rfl fun w67 h67 => ?_
          simp only [List.cons_append, List.nil_append, List.set_cons_zero, List.set_cons_succ] at h67
          refine Plan.nil ?_
          refine hK66 _ _ ?_; clear hK66
          refine W.seq_k fun K68 hK68 => ?_
          obtain ⟨ok88, hX88, hR088⟩ := hR
          refine W.cutN (fun e w => (ok88 = true) ∧ EnvHas e [(1, VU .u8 n_2), (2, .int .i64 bit3), (7, .pointer (some ⟨b10, 0, none⟩))] ∧ St B w0 (⟨some b10, 0, 5, fun q => VU .u64 (x_8 q), true⟩ :: L) w) ?_ ?_
          ·
            replace hR := hX88
            refine W.seq_k fun K89 hK89 => ?_
            refine W.regionD FFieldBytes.mixed [(0, true), (2, true), (1, false), (3, false), (4, true), (5, true), (6, true), (7, false), (8, true), (9, true), (10, false), (11, true), (12, true)] (by kernel_rfl) ?_
            have h90 := h67.drew
            refine Plan.loadA1 h90 0 rfl rfl rfl FFieldBytes.agg23 ?_
            refine Plan.loadA1 h90 2 rfl rfl rfl FFieldBytes.agg28 ?_
            obtain ⟨x_92, hr91, hR⟩ := hR
            refine Plan.call (vs := [AG [(32, fun q => VU .u8 ((upd k1 31 ((k1 31) ^^^ (128#8))) q))]]) rfl FFieldBytes.call6 rfl (field_Read_ok  hr91 h90) ?_
            rintro _ w93 ⟨rfl, h93⟩
            refine ⟨_, rfl, .inl ⟨PIn.keep (PIn.cons 2 rfl (PIn.cons 0 rfl PIn.nil)) h93, ?_⟩⟩
            obtain ⟨x_95, hr94, hR⟩ := hR
            refine Plan.call (vs := [AG [(5, fun q => VU .u64 (x_92 q))], AG [(5, fun q => VU .u64 (x_8 q))]]) rfl FFieldBytes.call9 rfl (field_Elem_Equal_ok  hr94 h93) ?_
            rintro _ w96 ⟨rfl, h96⟩
            refine ⟨_, rfl, .inl ⟨PIn.keep (PIn.cons 2 rfl (PIn.cons 0 rfl PIn.nil)) h96, ?_⟩⟩
            by_cases hc97 : x_95 = true
            ·
              replace hR := ifT hR hc97
              obtain rfl : x_95 = true := hc97
              refine Plan.notT rfl rfl ?_
              refine Plan.move_bool rfl rfl ?_
              refine Plan.loadA1 h96 3 rfl rfl rfl FFieldBytes.agg23 ?_
              obtain ⟨x_99, hr98, hR⟩ := hR
              refine Plan.call (vs := [AG [(32, fun q => VU .u8 (k1 q))]]) rfl FFieldBytes.call8 rfl (field_Fits_ok  hr98 h96) ?_
              rintro _ w100 ⟨rfl, h100⟩
              refine ⟨_, rfl, .inl ⟨PIn.keep (PIn.cons 3 rfl (PIn.cons 2 rfl (PIn.cons 0 rfl PIn.nil))) h100, ?_⟩⟩
              by_cases hc101 : x_99 = true
              ·
                replace hR := ifT hR hc101
                obtain rfl : x_99 = true := hc101
                refine Plan.move_bool rfl rfl ?_
                refine Plan.loadA1 h100 0 rfl rfl rfl FFieldBytes.agg23 ?_
                obtain ⟨x_103, hr102, hR⟩ := hR
                refine Plan.call (vs := [AG [(32, fun q => VU .u8 ((upd k1 31 ((k1 31) ^^^ (128#8))) q))]]) rfl FFieldBytes.call8 rfl (field_Fits_ok  hr102 h100) ?_
                rintro _ w104 ⟨rfl, h104⟩
                refine ⟨_, rfl, .inl ⟨PIn.keep (PIn.cons 0 rfl (PIn.cons 3 rfl (PIn.cons 2 rfl (PIn.cons 0 rfl PIn.nil)))) h104, ?_⟩⟩
                refine Plan.pickTb rfl rfl rfl ?_
                refine Plan.pickFb rfl rfl rfl ?_
                refine Plan.nil ?_
                refine hK89 _ _ ?_; clear hK89
                by_cases hc105 : x_103 = true
                ·
                  replace hR := ifT hR hc105
                  refine W.condT (congrArg Value.bool hc105) ?_
                  refine W.seq_k fun K106 hK106 => ?_
                  refine W.regionT [(0, true)] (by kernel_rfl) ?_
                  refine Plan.assign_bool rfl rfl ?_
                  refine Plan.nil ?_
                  refine hK106 _ _ ?_; clear hK106
                  refine W.ret (thenR_ret (thenR_ret (finR_ret ?_)))
                  have h107 := St.pickT (C := [_, _, _, _]) h104 [] (by decide)
                  simp only [pick, List.filterMap_cons, List.filterMap_nil, List.getElem?_cons_zero, List.getElem?_cons_succ, List.cons_append, List.nil_append] at h107
                  replace hR := hR.2
                  subst r
                  refine RetOk.mk (.tmp_bool rfl .nil) ?_
                  exact ⟨rfl, h107⟩
                ·
                  replace hR := ifF hR hc105
                  refine W.condF (congrArg Value.bool (Bool.eq_false_iff.2 hc105)) ?_
                  refine W.skip ?_
                  have h108 := St.pickT (C := [_, _, _, _]) h104 [2] (by decide)
                  simp only [pick, List.filterMap_cons, List.filterMap_nil, List.getElem?_cons_zero, List.getElem?_cons_succ, List.cons_append, List.nil_append] at h108
                  exact ⟨hR, (EnvHas.cons rfl (EnvHas.cons rfl (EnvHas.cons rfl EnvHas.nil))), h108⟩
              ·
                replace hR := ifF hR hc101
                obtain rfl : x_99 = false := Bool.eq_false_iff.2 hc101
                refine Plan.move_bool rfl rfl ?_
                refine Plan.passed rfl ?_
                refine Plan.passed rfl ?_
                refine Plan.pickFb rfl rfl rfl ?_
                refine Plan.pickFb rfl rfl rfl ?_
                refine Plan.nil ?_
                refine hK89 _ _ ?_; clear hK89
                refine W.condF rfl ?_
                refine W.skip ?_
                have h109 := St.pickT (C := [_, _, _, _]) h100 [2] (by decide)
                simp only [pick, List.filterMap_cons, List.filterMap_nil, List.getElem?_cons_zero, List.getElem?_cons_succ, List.cons_append, List.nil_append] at h109
                exact ⟨hR, (EnvHas.cons rfl (EnvHas.cons rfl (EnvHas.cons rfl EnvHas.nil))), h109⟩
            ·
              replace hR := ifF hR hc97
              obtain rfl : x_95 = false := Bool.eq_false_iff.2 hc97
              refine Plan.notF rfl rfl ?_
              refine Plan.move_bool rfl rfl ?_
              refine Plan.passed rfl ?_
              refine Plan.passed rfl ?_
              refine Plan.passed rfl ?_
              refine Plan.passed rfl ?_
              refine Plan.passed rfl ?_
              refine Plan.passed rfl ?_
              refine Plan.pickTb rfl rfl rfl ?_
              refine Plan.nil ?_
              refine hK89 _ _ ?_; clear hK89
              refine W.condT rfl ?_
              refine W.seq_k fun K110 hK110 => ?_
              refine W.regionT [(0, true)] (by kernel_rfl) ?_
              refine Plan.assign_bool rfl rfl ?_
              refine Plan.nil ?_
              refine hK110 _ _ ?_; clear hK110
              refine W.ret (thenR_ret (thenR_ret (finR_ret ?_)))
              have h111 := St.pickT (C := [_, _, _, _]) h96 [] (by decide)
              simp only [pick, List.filterMap_cons, List.filterMap_nil, List.getElem?_cons_zero, List.getElem?_cons_succ, List.cons_append, List.nil_append] at h111
              replace hR := hR.2
              subst r
              refine RetOk.mk (.tmp_bool rfl .nil) ?_
              exact ⟨rfl, h111⟩
          ·
            rintro ev112 wl112 ⟨hy112_0, he112, h112⟩
            obtain ⟨ev112, rfl⟩ := he112.open
            replace hR := hR088 hy112_0
            refine hK68 _ _ ?_; clear hK68
            refine W.seq_k fun K113 hK113 => ?_
            refine W.regionT [(0, false), (1, false), (2, false)] (by kernel_rfl) ?_
            obtain ⟨x_115, hr114, hR⟩ := hR
            refine Plan.call (vs := [VU .u8 (0#8)]) rfl FFieldBytes.call10 rfl (lethelaw06_prime_ok  hr114 h112) ?_
            rintro _ w116 ⟨rfl, h116⟩
            refine ⟨_, rfl, .inl ⟨PIn.keep PIn.nil h116, ?_⟩⟩
            refine Plan.alloc h116 rfl FFieldBytes.z23 PIn.nil fun b117 w117 hb117 h117 => ?_
            simp only [rngs, Nat.zero_add, Nat.reduceAdd, List.cons_append, List.nil_append] at h117
            refine Plan.storeA (f' := fun q => VU .u8 (x_115 q)) h117 0 rfl rfl rfl rfl (fun _ _ => rfl) FFieldBytes.sz23 rfl fun w118 h118 => ?_
            simp only [List.cons_append, List.nil_append, List.set_cons_zero, List.set_cons_succ] at h118
            refine Plan.nil ?_
            refine hK113 _ _ ?_; clear hK113
            refine W.seq_k fun K119 hK119 => ?_
            refine W.regionT [(0, true), (1, true), (2, true)] (by kernel_rfl) ?_
            refine Plan.move_int rfl rfl ?_
            refine Plan.remU .u8 (X := n_2) (Y := 19#8) rfl rfl rfl (by decide) ?_
            refine Plan.assign_int rfl rfl ?_
            refine Plan.nil ?_
            refine hK119 _ _ ?_; clear hK119
            refine W.seq_k fun K120 hK120 => ?_
            refine W.regionT [(0, true), (1, true), (2, true), (3, true), (4, true), (5, false)] (by kernel_rfl) ?_
            refine Plan.idxArr1 (j := 0) FFieldBytes.arr23 rfl rfl rfl (by omega) ?_
            refine Plan.load1 (j := 0) h118 0 rfl rfl rfl (by omega) FFieldBytes.sc5 ?_
            refine Plan.move_int rfl rfl ?_
            refine Plan.addU .u8 (X := (x_115 0)) (Y := (n_2 % (19#8))) rfl rfl rfl ?_
            refine Plan.idxArr1 (j := 0) FFieldBytes.arr23 rfl rfl rfl (by omega) ?_
            refine Plan.storeU (j := 0) (X := ((x_115 0) + (n_2 % (19#8)))) h118 0 rfl rfl rfl rfl (by omega) FFieldBytes.sz5 rfl fun w121 h121 => ?_
            simp only [List.cons_append, List.nil_append, List.set_cons_zero, List.set_cons_succ] at h121
            refine Plan.nil ?_
            refine hK120 _ _ ?_; clear hK120
            refine W.seq_k fun K122 hK122 => ?_
            refine W.seq_k fun K145 hK145 => ?_
            refine W.regionT [(0, true), (1, false), (2, true), (3, true), (4, false), (5, false), (6, true), (7, true), (8, true), (9, true), (10, true), (11, true), (12, true), (13, false), (14, false), (15, true), (16, true)] (by kernel_rfl) ?_
            refine Plan.loadA1 h121 0 rfl rfl rfl FFieldBytes.agg23 ?_
            obtain ⟨x_147, hr146, hR⟩ := hR
            refine Plan.call (vs := [AG [(32, fun q => VU .u8 ((upd x_115 0 ((x_115 0) + (n_2 % (19#8)))) q))]]) rfl FFieldBytes.call8 rfl (field_Fits_ok  hr146 h121) ?_
            rintro _ w148 ⟨rfl, h148⟩
            refine ⟨_, rfl, .inr ⟨rfl, ?_⟩⟩
            by_cases hc149 : x_147 = true
            ·
              replace hR := ifT hR hc149
              obtain rfl : x_147 = true := hc149
              refine Plan.move_bool rfl rfl ?_
              refine Plan.passed rfl ?_
              refine Plan.passed rfl ?_
              refine Plan.passed rfl ?_
              refine Plan.passed rfl ?_
              refine Plan.passed rfl ?_
              refine Plan.passed rfl ?_
              refine Plan.pickTb rfl rfl rfl ?_
              refine Plan.move_bool rfl rfl ?_
              refine Plan.passed rfl ?_
              refine Plan.passed rfl ?_
              refine Plan.passed rfl ?_
              refine Plan.passed rfl ?_
              refine Plan.passed rfl ?_
              refine Plan.pickTb rfl rfl rfl ?_
              refine Plan.nil ?_
              refine hK145 _ _ ?_; clear hK145
              refine W.condT rfl ?_
              refine W.seq_k fun K150 hK150 => ?_
              refine W.regionT [(0, true)] (by kernel_rfl) ?_
              refine Plan.assign_bool rfl rfl ?_
              refine Plan.nil ?_
              refine hK150 _ _ ?_; clear hK150
              refine W.ret (thenR_ret (finR_ret ?_))
              have h151 := St.pickT (C := [_, _]) h148 [] (by decide)
              simp only [pick, List.filterMap_cons, List.filterMap_nil, List.getElem?_cons_zero, List.getElem?_cons_succ, List.cons_append, List.nil_append] at h151
              subst r
              refine RetOk.mk (.tmp_bool rfl .nil) ?_
              exact ⟨rfl, h151⟩
            ·
              replace hR := ifF hR hc149
              obtain rfl : x_147 = false := Bool.eq_false_iff.2 hc149
              refine Plan.move_bool rfl rfl ?_
              refine Plan.loadA1 h148 0 rfl rfl rfl FFieldBytes.agg23 ?_
              obtain ⟨x_153, hr152, hR⟩ := hR
              refine Plan.call (vs := [AG [(32, fun q => VU .u8 ((upd x_115 0 ((x_115 0) + (n_2 % (19#8)))) q))]]) rfl FFieldBytes.call6 rfl (field_Read_ok  hr152 h148) ?_
              rintro _ w154 ⟨rfl, h154⟩
              refine ⟨_, rfl, .inr ⟨rfl, ?_⟩⟩
              obtain ⟨x_156, hr155, hR⟩ := hR
              refine Plan.call (vs := [AG [(5, fun q => VU .u64 (x_153 q))]]) rfl FFieldBytes.call7 rfl (field_Elem_Bytes_ok  hr155 h154) ?_
              rintro _ w157 ⟨rfl, h157⟩
              refine ⟨_, rfl, .inl ⟨PIn.keep PIn.nil h157, ?_⟩⟩
              refine Plan.move_int rfl rfl ?_
              refine Plan.buildArr (ps := [(32, fun q => VU .u8 ((upd (fun _ => 0#8) 0 (n_2 % (19#8))) q))]) FFieldBytes.arr23 FFieldBytes.z23 rfl rfl rfl ?_
              by_cases hc158 : (eqB 32 x_156 (upd (fun _ => 0#8) 0 (n_2 % (19#8)))) = true
              ·
                replace hR := ifT hR hc158
                refine Plan.neArrV (b := true) FFieldBytes.arrI23 rfl rfl rfl hc158 ?_
                refine Plan.pickFb rfl rfl rfl ?_
                refine Plan.move_bool rfl rfl ?_
                refine Plan.move_int rfl rfl ?_
                refine Plan.addU .u8 (X := (n_2 % (19#8))) (Y := 1#8) rfl rfl rfl ?_
                obtain ⟨x_160, hr159, hR⟩ := hR
                refine Plan.call (vs := [VU .u8 ((n_2 % (19#8)) + (1#8))]) rfl FFieldBytes.call10 rfl (lethelaw06_prime_ok  hr159 h157) ?_
                rintro _ w161 ⟨rfl, h161⟩
                refine ⟨_, rfl, .inl ⟨PIn.keep PIn.nil h161, ?_⟩⟩
                obtain ⟨x_163, hr162, hR⟩ := hR
                refine Plan.call (vs := [AG [(32, fun q => VU .u8 (x_160 q))]]) rfl FFieldBytes.call8 rfl (field_Fits_ok  hr162 h161) ?_
                rintro _ w164 ⟨rfl, h164⟩
                refine ⟨_, rfl, .inl ⟨PIn.keep PIn.nil h164, ?_⟩⟩
                refine Plan.not rfl rfl ?_
                refine Plan.pickFb rfl rfl rfl ?_
                refine Plan.nil ?_
                refine hK145 _ _ ?_; clear hK145
                by_cases hc165 : x_163 = true
                ·
                  replace hR := ifT hR hc165
                  refine W.condF (congrArg Value.bool (congrArg Bool.not hc165)) ?_
                  refine W.skip ?_
                  refine hK122 _ _ ?_; clear hK122
                  refine W.seq_k fun K166 hK166 => ?_
                  obtain ⟨m217, hX219, hR0219⟩ := hR
                  refine W.cutN (fun e w => ∃ y_m217 : Nat → BitVec 64, (m217 = y_m217) ∧ ∃ b216 : Nat, ∃ b218 : Nat, EnvHas e [(2, .int .i64 bit3), (11, .pointer (some ⟨b216, 0, none⟩)), (12, .pointer (some ⟨b218, 0, none⟩))] ∧ St B w0 (⟨some b216, 0, 5, fun q => VU .u64 (y_m217 q), true⟩ :: ⟨some b218, 0, 5, fun q => VU .u64 (x_8 q), true⟩ :: L) w) ?_ ?_
                  ·
                    replace hR := hX219
                    refine W.regionF FFieldBytes.mixed (.fork [(0, true), (1, true), (2, true), (4, true)] (.fork [(3, false)] (.line [(5, false), (6, false), (7, false), (8, false)]) (.line [(6, false), (5, false), (7, false), (8, false)])) (.fork [] (.fork [(5, false)] (.line [(3, false), (6, false), (7, false), (8, false)]) (.line [(6, false), (3, false), (7, false), (8, false)])) (.fork [(6, false)] (.line [(3, false), (5, false), (7, false), (8, false)]) (.line [(5, false), (3, false), (7, false), (8, false)])))) (by kernel_rfl) (PlanT.toFork ?_)
                    have h220 := h164.drew
                    refine Plan.move_int rfl rfl ?_
                    refine Plan.convUU .u32 (X := (n_2 % (19#8))) FFieldBytes.u35 FFieldBytes.some5 rfl rfl ?_
                    refine Plan.addU .u32 (X := ((n_2 % (19#8)).setWidth 32)) (Y := 3#32) rfl rfl rfl ?_
                    refine Plan.loadA1 h220 1 rfl rfl rfl FFieldBytes.agg28 ?_
                    obtain ⟨x_222, hr221, hR⟩ := hR
                    refine Plan.forked ?_ ?_
                    ·
                      refine PlanT.toFork ?_
                      refine Plan.call (vs := [VU .u32 (((n_2 % (19#8)).setWidth 32) + (3#32))]) rfl FFieldBytes.call11 rfl (field_Small_ok  hr221 h220) ?_
                      rintro _ w234 ⟨rfl, h234⟩
                      refine ⟨_, rfl, .inl ⟨PIn.keep (PIn.cons 1 rfl PIn.nil) h234, ?_⟩⟩
                      refine Plan.forked ?_ ?_
                      ·
                        refine PlanT.toLine ?_
                        refine Plan.alloc h234 rfl FFieldBytes.z28 (PIn.cons 1 rfl PIn.nil) fun b235 w235 hb235 h235 => ?_
                        simp only [rngs, Nat.zero_add, Nat.reduceAdd, List.cons_append, List.nil_append] at h235
                        refine Plan.alloc h235 rfl FFieldBytes.z28 (PIn.cons 2 rfl PIn.nil) fun b236 w236 hb236 h236 => ?_
                        simp only [rngs, Nat.zero_add, Nat.reduceAdd, List.cons_append, List.nil_append] at h236
                        refine Plan.storeP (ps := [(5, fun q => VU .u64 (x_222 q))]) h236 rfl rfl rfl (.cons 1 rfl .nil) ⟨fun _ _ => rfl, trivial⟩ FFieldBytes.sz28 (EffO.keep (PIn.cons 3 rfl PIn.nil)) fun w237 h237 => ?_
                        simp only [List.cons_append, List.nil_append, List.set_cons_zero, List.set_cons_succ] at h237
                        refine Plan.storeA (f' := fun q => VU .u64 (x_8 q)) h237 0 rfl rfl rfl rfl (fun _ _ => rfl) FFieldBytes.sz28 rfl fun w238 h238 => ?_
                        simp only [List.cons_append, List.nil_append, List.set_cons_zero, List.set_cons_succ] at h238
                        refine Plan.nil ?_
                        have h239 := St.pickT (C := [_, _, _, _]) h238 [1, 0] (by decide)
                        simp only [pick, List.filterMap_cons, List.filterMap_nil, List.getElem?_cons_zero, List.getElem?_cons_succ, List.cons_append, List.nil_append] at h239
                        exact ⟨x_222, hR, b235, b236, (EnvHas.cons rfl (EnvHas.cons rfl (EnvHas.cons rfl EnvHas.nil))), h239⟩
                      ·
                        refine PlanT.toLine ?_
                        refine Plan.alloc h234 rfl FFieldBytes.z28 (PIn.cons 1 rfl PIn.nil) fun b240 w240 hb240 h240 => ?_
                        simp only [rngs, Nat.zero_add, Nat.reduceAdd, List.cons_append, List.nil_append] at h240
                        refine Plan.alloc h240 rfl FFieldBytes.z28 (PIn.cons 2 rfl PIn.nil) fun b241 w241 hb241 h241 => ?_
                        simp only [rngs, Nat.zero_add, Nat.reduceAdd, List.cons_append, List.nil_append] at h241
                        refine Plan.storeP (ps := [(5, fun q => VU .u64 (x_222 q))]) h241 rfl rfl rfl (.cons 0 rfl .nil) ⟨fun _ _ => rfl, trivial⟩ FFieldBytes.sz28 (EffO.keep (PIn.cons 3 rfl PIn.nil)) fun w242 h242 => ?_
                        simp only [List.cons_append, List.nil_append, List.set_cons_zero, List.set_cons_succ] at h242
                        refine Plan.storeA (f' := fun q => VU .u64 (x_8 q)) h242 1 rfl rfl rfl rfl (fun _ _ => rfl) FFieldBytes.sz28 rfl fun w243 h243 => ?_
                        simp only [List.cons_append, List.nil_append, List.set_cons_zero, List.set_cons_succ] at h243
                        refine Plan.nil ?_
                        have h244 := St.pickT (C := [_, _, _, _]) h243 [0, 1] (by decide)
                        simp only [pick, List.filterMap_cons, List.filterMap_nil, List.getElem?_cons_zero, List.getElem?_cons_succ, List.cons_append, List.nil_append] at h244
                        exact ⟨x_222, hR, b241, b240, (EnvHas.cons rfl (EnvHas.cons rfl (EnvHas.cons rfl EnvHas.nil))), h244⟩
                    ·
                      refine PlanT.toFork ?_
                      refine Plan.forked ?_ ?_
                      ·
                        refine PlanT.toFork ?_
                        refine Plan.alloc h220 rfl FFieldBytes.z28 (PIn.cons 1 rfl PIn.nil) fun b245 w245 hb245 h245 => ?_
                        simp only [rngs, Nat.zero_add, Nat.reduceAdd, List.cons_append, List.nil_append] at h245
                        refine Plan.forked ?_ ?_
                        ·
                          refine PlanT.toLine ?_
                          refine Plan.call (vs := [VU .u32 (((n_2 % (19#8)).setWidth 32) + (3#32))]) rfl FFieldBytes.call11 rfl (field_Small_ok  hr221 h245) ?_
                          rintro _ w248 ⟨rfl, h248⟩
                          refine ⟨_, rfl, .inl ⟨PIn.keep (PIn.cons 2 rfl PIn.nil) h248, ?_⟩⟩
                          refine Plan.alloc h248 rfl FFieldBytes.z28 (PIn.cons 2 rfl PIn.nil) fun b249 w249 hb249 h249 => ?_
                          simp only [rngs, Nat.zero_add, Nat.reduceAdd, List.cons_append, List.nil_append] at h249
                          refine Plan.storeP (ps := [(5, fun q => VU .u64 (x_222 q))]) h249 rfl rfl rfl (.cons 1 rfl .nil) ⟨fun _ _ => rfl, trivial⟩ FFieldBytes.sz28 (EffO.keep (PIn.cons 3 rfl PIn.nil)) fun w250 h250 => ?_
                          simp only [List.cons_append, List.nil_append, List.set_cons_zero, List.set_cons_succ] at h250
                          refine Plan.storeA (f' := fun q => VU .u64 (x_8 q)) h250 0 rfl rfl rfl rfl (fun _ _ => rfl) FFieldBytes.sz28 rfl fun w251 h251 => ?_
                          simp only [List.cons_append, List.nil_append, List.set_cons_zero, List.set_cons_succ] at h251
                          refine Plan.nil ?_
                          have h252 := St.pickT (C := [_, _, _, _]) h251 [1, 0] (by decide)
                          simp only [pick, List.filterMap_cons, List.filterMap_nil, List.getElem?_cons_zero, List.getElem?_cons_succ, List.cons_append, List.nil_append] at h252
                          exact ⟨x_222, hR, b245, b249, (EnvHas.cons rfl (EnvHas.cons rfl (EnvHas.cons rfl EnvHas.nil))), h252⟩
                        ·
                          refine PlanT.toLine ?_
                          refine Plan.alloc h245 rfl FFieldBytes.z28 (PIn.cons 2 rfl PIn.nil) fun b253 w253 hb253 h253 => ?_
                          simp only [rngs, Nat.zero_add, Nat.reduceAdd, List.cons_append, List.nil_append] at h253
                          refine Plan.call (vs := [VU .u32 (((n_2 % (19#8)).setWidth 32) + (3#32))]) rfl FFieldBytes.call11 rfl (field_Small_ok  hr221 h253) ?_
                          rintro _ w256 ⟨rfl, h256⟩
                          refine ⟨_, rfl, .inl ⟨PIn.keep (PIn.cons 3 rfl PIn.nil) h256, ?_⟩⟩
                          refine Plan.storeP (ps := [(5, fun q => VU .u64 (x_222 q))]) h256 rfl rfl rfl (.cons 1 rfl .nil) ⟨fun _ _ => rfl, trivial⟩ FFieldBytes.sz28 (EffO.keep (PIn.cons 3 rfl PIn.nil)) fun w257 h257 => ?_
                          simp only [List.cons_append, List.nil_append, List.set_cons_zero, List.set_cons_succ] at h257
                          refine Plan.storeA (f' := fun q => VU .u64 (x_8 q)) h257 0 rfl rfl rfl rfl (fun _ _ => rfl) FFieldBytes.sz28 rfl fun w258 h258 => ?_
                          simp only [List.cons_append, List.nil_append, List.set_cons_zero, List.set_cons_succ] at h258
                          refine Plan.nil ?_
                          have h259 := St.pickT (C := [_, _, _, _]) h258 [1, 0] (by decide)
                          simp only [pick, List.filterMap_cons, List.filterMap_nil, List.getElem?_cons_zero, List.getElem?_cons_succ, List.cons_append, List.nil_append] at h259
                          exact ⟨x_222, hR, b245, b253, (EnvHas.cons rfl (EnvHas.cons rfl (EnvHas.cons rfl EnvHas.nil))), h259⟩
                      ·
                        refine PlanT.toFork ?_
                        refine Plan.alloc h220 rfl FFieldBytes.z28 (PIn.cons 1 rfl PIn.nil) fun b260 w260 hb260 h260 => ?_
                        simp only [rngs, Nat.zero_add, Nat.reduceAdd, List.cons_append, List.nil_append] at h260
                        refine Plan.forked ?_ ?_
                        ·
                          refine PlanT.toLine ?_
                          refine Plan.call (vs := [VU .u32 (((n_2 % (19#8)).setWidth 32) + (3#32))]) rfl FFieldBytes.call11 rfl (field_Small_ok  hr221 h260) ?_
                          rintro _ w263 ⟨rfl, h263⟩
                          refine ⟨_, rfl, .inl ⟨PIn.keep (PIn.cons 2 rfl PIn.nil) h263, ?_⟩⟩
                          refine Plan.alloc h263 rfl FFieldBytes.z28 (PIn.cons 2 rfl PIn.nil) fun b264 w264 hb264 h264 => ?_
                          simp only [rngs, Nat.zero_add, Nat.reduceAdd, List.cons_append, List.nil_append] at h264
                          refine Plan.storeP (ps := [(5, fun q => VU .u64 (x_222 q))]) h264 rfl rfl rfl (.cons 0 rfl .nil) ⟨fun _ _ => rfl, trivial⟩ FFieldBytes.sz28 (EffO.keep (PIn.cons 3 rfl PIn.nil)) fun w265 h265 => ?_
                          simp only [List.cons_append, List.nil_append, List.set_cons_zero, List.set_cons_succ] at h265
                          refine Plan.storeA (f' := fun q => VU .u64 (x_8 q)) h265 1 rfl rfl rfl rfl (fun _ _ => rfl) FFieldBytes.sz28 rfl fun w266 h266 => ?_
                          simp only [List.cons_append, List.nil_append, List.set_cons_zero, List.set_cons_succ] at h266
                          refine Plan.nil ?_
                          have h267 := St.pickT (C := [_, _, _, _]) h266 [0, 1] (by decide)
                          simp only [pick, List.filterMap_cons, List.filterMap_nil, List.getElem?_cons_zero, List.getElem?_cons_succ, List.cons_append, List.nil_append] at h267
                          exact ⟨x_222, hR, b264, b260, (EnvHas.cons rfl (EnvHas.cons rfl (EnvHas.cons rfl EnvHas.nil))), h267⟩
                        ·
                          refine PlanT.toLine ?_
                          refine Plan.alloc h260 rfl FFieldBytes.z28 (PIn.cons 2 rfl PIn.nil) fun b268 w268 hb268 h268 => ?_
                          simp only [rngs, Nat.zero_add, Nat.reduceAdd, List.cons_append, List.nil_append] at h268
                          refine Plan.call (vs := [VU .u32 (((n_2 % (19#8)).setWidth 32) + (3#32))]) rfl FFieldBytes.call11 rfl (field_Small_ok  hr221 h268) ?_
                          rintro _ w271 ⟨rfl, h271⟩
                          refine ⟨_, rfl, .inl ⟨PIn.keep (PIn.cons 3 rfl PIn.nil) h271, ?_⟩⟩
                          refine Plan.storeP (ps := [(5, fun q => VU .u64 (x_222 q))]) h271 rfl rfl rfl (.cons 0 rfl .nil) ⟨fun _ _ => rfl, trivial⟩ FFieldBytes.sz28 (EffO.keep (PIn.cons 3 rfl PIn.nil)) fun w272 h272 => ?_
                          simp only [List.cons_append, List.nil_append, List.set_cons_zero, List.set_cons_succ] at h272
                          refine Plan.storeA (f' := fun q => VU .u64 (x_8 q)) h272 1 rfl rfl rfl rfl (fun _ _ => rfl) FFieldBytes.sz28 rfl fun w273 h273 => ?_
                          simp only [List.cons_append, List.nil_append, List.set_cons_zero, List.set_cons_succ] at h273
                          refine Plan.nil ?_
                          have h274 := St.pickT (C := [_, _, _, _]) h273 [0, 1] (by decide)
                          simp only [pick, List.filterMap_cons, List.filterMap_nil, List.getElem?_cons_zero, List.getElem?_cons_succ, List.cons_append, List.nil_append] at h274
                          exact ⟨x_222, hR, b268, b260, (EnvHas.cons rfl (EnvHas.cons rfl (EnvHas.cons rfl EnvHas.nil))), h274⟩
                  ·
                    rintro ev275 wl275 ⟨y_m217, hy275_0, b216, b218, he275, h275⟩
                    subst hy275_0
                    obtain ⟨ev275, rfl⟩ := he275.open
                    replace hR := hR0219
                    refine hK166 _ _ ?_; clear hK166
                    refine W.seq_k fun K276 hK276 => ?_
                    refine W.regionT [(0, true), (1, true), (2, true), (3, false), (4, true), (5, true), (6, true), (7, false), (8, false), (9, false), (10, false)] (by kernel_rfl) ?_
                    refine Plan.move_int rfl rfl ?_
                    refine Plan.loadA1 h275 0 rfl rfl rfl FFieldBytes.agg28 ?_
                    refine Plan.loadA1 h275 1 rfl rfl rfl FFieldBytes.agg28 ?_
                    obtain ⟨x_278, x_279, hr277, hR⟩ := hR
                    refine Plan.call (vs := [.int .i64 bit3, AG [(5, fun q => VU .u64 (m217 q))], AG [(5, fun q => VU .u64 (x_8 q))]]) rfl FFieldBytes.call12 rfl (field_Swap_ok  hr277 h275) ?_
                    rintro _ w280 ⟨rfl, h280⟩
                    refine ⟨_, rfl, .inr ⟨rfl, ?_⟩⟩
                    refine Plan.move_tuple rfl rfl ?_
                    refine Plan.extract_agg rfl rfl rfl ?_
                    refine Plan.extract_agg rfl rfl rfl ?_
                    refine Plan.alloc h280 rfl FFieldBytes.z28 PIn.nil fun b281 w281 hb281 h281 => ?_
                    simp only [rngs, Nat.zero_add, Nat.reduceAdd, List.cons_append, List.nil_append] at h281
                    refine Plan.alloc h281 rfl FFieldBytes.z28 PIn.nil fun b282 w282 hb282 h282 => ?_
                    simp only [rngs, Nat.zero_add, Nat.reduceAdd, List.cons_append, List.nil_append] at h282
                    refine Plan.storeA (f' := fun q => VU .u64 (x_278 q)) h282 1 rfl rfl rfl rfl (fun _ _ => rfl) FFieldBytes.sz28 rfl fun w283 h283 => ?_
                    simp only [List.cons_append, List.nil_append, List.set_cons_zero, List.set_cons_succ] at h283
                    refine Plan.storeA (f' := fun q => VU .u64 (x_279 q)) h283 0 rfl rfl rfl rfl (fun _ _ => rfl) FFieldBytes.sz28 rfl fun w284 h284 => ?_
                    simp only [List.cons_append, List.nil_append, List.set_cons_zero, List.set_cons_succ] at h284
                    refine Plan.nil ?_
                    refine hK276 _ _ ?_; clear hK276
                    refine W.seq_k fun K285 hK285 => ?_
                    refine W.seq_k fun K286 hK286 => ?_
                    refine W.regionT [(0, true), (1, true), (2, true)] (by kernel_rfl) ?_
                    refine Plan.move_int rfl rfl ?_
                    refine Plan.maskI (a := bit3) 1 (by decide) rfl rfl rfl ?_
                    refine Plan.cmpP (a := ((bit3 % 2) : Int)) (b := (1 : Int)) (p := (bit3 % 2) = 1) rfl rfl rfl rfl icmp_eq ?_
                    refine Plan.nil ?_
                    refine hK286 _ _ ?_; clear hK286
                    by_cases hc287 : (bit3 % 2) = 1
                    ·
                      replace hR := ifT hR hc287
                      refine W.condT (congrArg Value.bool (decide_eq_true hc287)) ?_
                      refine W.seq_k fun K288 hK288 => ?_
                      refine W.regionT [(0, true), (1, true), (2, false), (3, true), (4, true), (5, true), (6, false), (7, true), (8, true)] (by kernel_rfl) ?_
                      refine Plan.loadA1 h284 1 rfl rfl rfl FFieldBytes.agg28 ?_
                      refine Plan.loadA1 h284 3 rfl rfl rfl FFieldBytes.agg28 ?_
                      obtain ⟨x_290, hr289, hR⟩ := hR
                      refine Plan.call (vs := [AG [(5, fun q => VU .u64 (x_278 q))], AG [(5, fun q => VU .u64 (x_8 q))]]) rfl FFieldBytes.call9 rfl (field_Elem_Equal_ok  hr289 h284) ?_
                      rintro _ w291 ⟨rfl, h291⟩
                      refine ⟨_, rfl, .inr ⟨rfl, ?_⟩⟩
                      by_cases hc292 : x_290 = true
                      ·
                        replace hR := ifT hR hc292
                        obtain rfl : x_290 = true := hc292
                        refine Plan.move_bool rfl rfl ?_
                        refine Plan.loadA1 h291 0 rfl rfl rfl FFieldBytes.agg28 ?_
                        refine Plan.loadA1 h291 2 rfl rfl rfl FFieldBytes.agg28 ?_
                        obtain ⟨x_294, hr293, hR⟩ := hR
                        refine Plan.call (vs := [AG [(5, fun q => VU .u64 (x_279 q))], AG [(5, fun q => VU .u64 (m217 q))]]) rfl FFieldBytes.call9 rfl (field_Elem_Equal_ok  hr293 h291) ?_
                        rintro _ w295 ⟨rfl, h295⟩
                        refine ⟨_, rfl, .inr ⟨rfl, ?_⟩⟩
                        refine Plan.pickTb rfl rfl rfl ?_
                        refine Plan.assign_bool rfl rfl ?_
                        refine Plan.nil ?_
                        refine hK288 _ _ ?_; clear hK288
                        refine W.ret (thenR_ret (finR_ret ?_))
                        have h296 := St.pickT (C := [_, _, _, _]) h295 [] (by decide)
                        simp only [pick, List.filterMap_cons, List.filterMap_nil, List.getElem?_cons_zero, List.getElem?_cons_succ, List.cons_append, List.nil_append] at h296
                        subst r
                        refine RetOk.mk (.tmp_bool rfl .nil) ?_
                        exact ⟨rfl, h296⟩
                      ·
                        replace hR := ifF hR hc292
                        obtain rfl : x_290 = false := Bool.eq_false_iff.2 hc292
                        refine Plan.move_bool rfl rfl ?_
                        refine Plan.passed rfl ?_
                        refine Plan.passed rfl ?_
                        refine Plan.passed rfl ?_
                        refine Plan.pickFb rfl rfl rfl ?_
                        refine Plan.assign_bool rfl rfl ?_
                        refine Plan.nil ?_
                        refine hK288 _ _ ?_; clear hK288
                        refine W.ret (thenR_ret (finR_ret ?_))
                        have h297 := St.pickT (C := [_, _, _, _]) h291 [] (by decide)
                        simp only [pick, List.filterMap_cons, List.filterMap_nil, List.getElem?_cons_zero, List.getElem?_cons_succ, List.cons_append, List.nil_append] at h297
                        subst r
                        refine RetOk.mk (.tmp_bool rfl .nil) ?_
                        exact ⟨rfl, h297⟩
                    ·
                      replace hR := ifF hR hc287
                      refine W.condF (congrArg Value.bool (decide_eq_false hc287)) ?_
                      refine W.skip ?_
                      refine hK285 _ _ ?_; clear hK285
                      refine W.seq_k fun K298 hK298 => ?_
                      refine W.regionT [(0, true), (1, true), (2, false), (3, true), (4, true), (5, true), (6, false), (7, true), (8, true)] (by kernel_rfl) ?_
                      refine Plan.loadA1 h284 1 rfl rfl rfl FFieldBytes.agg28 ?_
                      refine Plan.loadA1 h284 2 rfl rfl rfl FFieldBytes.agg28 ?_
                      obtain ⟨x_300, hr299, hR⟩ := hR
                      refine Plan.call (vs := [AG [(5, fun q => VU .u64 (x_278 q))], AG [(5, fun q => VU .u64 (m217 q))]]) rfl FFieldBytes.call9 rfl (field_Elem_Equal_ok  hr299 h284) ?_
                      rintro _ w301 ⟨rfl, h301⟩
                      refine ⟨_, rfl, .inr ⟨rfl, ?_⟩⟩
                      by_cases hc302 : x_300 = true
                      ·
                        replace hR := ifT hR hc302
                        obtain rfl : x_300 = true := hc302
                        refine Plan.move_bool rfl rfl ?_
                        refine Plan.loadA1 h301 0 rfl rfl rfl FFieldBytes.agg28 ?_
                        refine Plan.loadA1 h301 3 rfl rfl rfl FFieldBytes.agg28 ?_
                        obtain ⟨x_304, hr303, hR⟩ := hR
                        refine Plan.call (vs := [AG [(5, fun q => VU .u64 (x_279 q))], AG [(5, fun q => VU .u64 (x_8 q))]]) rfl FFieldBytes.call9 rfl (field_Elem_Equal_ok  hr303 h301) ?_
                        rintro _ w305 ⟨rfl, h305⟩
                        refine ⟨_, rfl, .inr ⟨rfl, ?_⟩⟩
                        refine Plan.pickTb rfl rfl rfl ?_
                        refine Plan.assign_bool rfl rfl ?_
                        refine Plan.nil ?_
                        refine hK298 _ _ ?_; clear hK298
                        refine W.ret (finR_ret ?_)
                        have h306 := St.pickT (C := [_, _, _, _]) h305 [] (by decide)
                        simp only [pick, List.filterMap_cons, List.filterMap_nil, List.getElem?_cons_zero, List.getElem?_cons_succ, List.cons_append, List.nil_append] at h306
                        subst r
                        refine RetOk.mk (.tmp_bool rfl .nil) ?_
                        exact ⟨rfl, h306⟩
                      ·
                        replace hR := ifF hR hc302
                        obtain rfl : x_300 = false := Bool.eq_false_iff.2 hc302
                        refine Plan.move_bool rfl rfl ?_
                        refine Plan.passed rfl ?_
                        refine Plan.passed rfl ?_
                        refine Plan.passed rfl ?_
                        refine Plan.pickFb rfl rfl rfl ?_
                        refine Plan.assign_bool rfl rfl ?_
                        refine Plan.nil ?_
                        refine hK298 _ _ ?_; clear hK298
                        refine W.ret (finR_ret ?_)
                        have h307 := St.pickT (C := [_, _, _, _]) h301 [] (by decide)
                        simp only [pick, List.filterMap_cons, List.filterMap_nil, List.getElem?_cons_zero, List.getElem?_cons_succ, List.cons_append, List.nil_append] at h307
                        subst r
                        refine RetOk.mk (.tmp_bool rfl .nil) ?_
                        exact ⟨rfl, h307⟩
                ·
                  replace hR := ifF hR hc165
                  refine W.condT (congrArg Value.bool (congrArg Bool.not (Bool.eq_false_iff.2 hc165))) ?_
                  refine W.seq_k fun K308 hK308 => ?_
                  refine W.regionT [(0, true)] (by kernel_rfl) ?_
                  refine Plan.assign_bool rfl rfl ?_
                  refine Plan.nil ?_
                  refine hK308 _ _ ?_; clear hK308
                  refine W.ret (thenR_ret (finR_ret ?_))
                  have h309 := St.pickT (C := [_, _]) h164 [] (by decide)
                  simp only [pick, List.filterMap_cons, List.filterMap_nil, List.getElem?_cons_zero, List.getElem?_cons_succ, List.cons_append, List.nil_append] at h309
                  subst r
                  refine RetOk.mk (.tmp_bool rfl .nil) ?_
                  exact ⟨rfl, h309⟩
              ·
                replace hR := ifF hR hc158
                refine Plan.neArrV (b := false) FFieldBytes.arrI23 rfl rfl rfl (Bool.eq_false_iff.2 hc158) ?_
                refine Plan.pickFb rfl rfl rfl ?_
                refine Plan.move_bool rfl rfl ?_
                refine Plan.passed rfl ?_
                refine Plan.passed rfl ?_
                refine Plan.passed rfl ?_
                refine Plan.passed rfl ?_
                refine Plan.passed rfl ?_
                refine Plan.pickTb rfl rfl rfl ?_
                refine Plan.nil ?_
                refine hK145 _ _ ?_; clear hK145
                refine W.condT rfl ?_
                refine W.seq_k fun K310 hK310 => ?_
                refine W.regionT [(0, true)] (by kernel_rfl) ?_
                refine Plan.assign_bool rfl rfl ?_
                refine Plan.nil ?_
                refine hK310 _ _ ?_; clear hK310
                refine W.ret (thenR_ret (finR_ret ?_))
                have h311 := St.pickT (C := [_, _]) h157 [] (by decide)
                simp only [pick, List.filterMap_cons, List.filterMap_nil, List.getElem?_cons_zero, List.getElem?_cons_succ, List.cons_append, List.nil_append] at h311
                subst r
                refine RetOk.mk (.tmp_bool rfl .nil) ?_
                exact ⟨rfl, h311⟩
        ·
          replace hR := ifF hR hc62
          refine W.condT (congrArg Value.bool (congrArg Bool.not (Bool.eq_false_iff.2 hc62))) ?_
          refine W.seq_k fun K312 hK312 => ?_
          refine W.regionT [(0, true)] (by kernel_rfl) ?_
          refine Plan.assign_bool rfl rfl ?_
          refine Plan.nil ?_
          refine hK312 _ _ ?_; clear hK312
          refine W.ret (thenR_ret (finR_ret ?_))
          have h313 := St.pickT (C := [_, _, _]) h61 [] (by decide)
          simp only [pick, List.filterMap_cons, List.filterMap_nil, List.getElem?_cons_zero, List.getElem?_cons_succ, List.cons_append, List.nil_append] at h313
          subst r
          refine RetOk.mk (.tmp_bool rfl .nil) ?_
          exact ⟨rfl, h313⟩
  ·
    replace hR := ifF hR hc46
    obtain rfl : x_44 = false := Bool.eq_false_iff.2 hc46
    refine Plan.notF rfl rfl ?_
    refine Plan.move_bool rfl rfl ?_
    refine Plan.passed rfl ?_
    refine Plan.passed rfl ?_
    refine Plan.passed rfl ?_
    refine Plan.pickTb rfl rfl rfl ?_
    refine Plan.move_bool rfl rfl ?_
    refine Plan.passed rfl ?_
    refine Plan.passed rfl ?_
    refine Plan.passed rfl ?_
    refine Plan.passed rfl ?_
    refine Plan.passed rfl ?_
    refine Plan.passed rfl ?_
    refine Plan.pickTb rfl rfl rfl ?_
    refine Plan.move_bool rfl rfl ?_
    refine Plan.passed rfl ?_
    refine Plan.passed rfl ?_
    refine Plan.passed rfl ?_
    refine Plan.passed rfl ?_
    refine Plan.passed rfl ?_
    refine Plan.pickTb rfl rfl rfl ?_
    refine Plan.nil ?_
    refine hK41 _ _ ?_; clear hK41
    refine W.condT rfl ?_
    refine W.seq_k fun K314 hK314 => ?_
    refine W.regionT [(0, true)] (by kernel_rfl) ?_
    refine Plan.assign_bool rfl rfl ?_
    refine Plan.nil ?_
    refine hK314 _ _ ?_; clear hK314
    refine W.ret (thenR_ret (finR_ret ?_))
    have h315 := St.pickT (C := [_, _, _]) h45 [] (by decide)
    simp only [pick, List.filterMap_cons, List.filterMap_nil, List.getElem?_cons_zero, List.getElem?_cons_succ, List.cons_append, List.nil_append] at h315
    subst r
    refine RetOk.mk (.tmp_bool rfl .nil) ?_
    exact ⟨rfl, h315⟩

end Go.Proofs.Ytjblfkmmbpcpaaa
