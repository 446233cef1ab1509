/-
  WALKS of the package's functions, printed by this session's own program (auto.py).
-/
import Derived.Test.YthjkmhdgenmnoaaDoorProg
import Derived.Test.YthjkmhdgenmnoaaDoorLx6
import Derived.Test.YthjkmhdgenmnoaaDoorRSealOneForm
import Derived.Test.YthjkmhdgenmnoaaDoorWLaw05
import Derived.Test.YthjkmhdgenmnoaaDoorWSeal
namespace Go.Proofs.YthjkmhdgenmnoaaDoor
set_option linter.unusedSimpArgs false
set_option linter.unusedVariables false
set_option linter.unusedSectionVars false
open Go Go.LW
theorem FSealOneForm.isl24 : ∃ el, Tryd.prog.underlying 24 = some (.slice el) := ⟨5, by kernel_rfl⟩
theorem FSealOneForm.call9 : callB Tryd.prog 9 = true := by kernel_rfl
theorem FSealOneForm.agg23 : aggT Tryd.prog 23 32 = true := by kernel_rfl
theorem FSealOneForm.slu24 : Tryd.prog.underlying 24 = some (.slice 5) := by kernel_rfl
theorem FSealOneForm.u5 : Tryd.prog.underlying 5 = some (.int .u8) := by kernel_rfl
theorem FSealOneForm.sz5 : szT Tryd.prog 5 1 = true := by kernel_rfl
theorem FSealOneForm.zv5 : (Tryd.prog.info? 5).bind (·.zero) = some (VU .u8 0#8) := by kernel_rfl
theorem FSealOneForm.call10 : callB Tryd.prog 10 = true := by kernel_rfl
theorem FSealOneForm.call12 : callB Tryd.prog 12 = true := by kernel_rfl
theorem FSealOneForm.call14 : callB Tryd.prog 14 = true := by kernel_rfl

set_option maxRecDepth 8000 in
set_option maxHeartbeats 1000000 in
theorem lethelaw05_SealOneForm_ok {B : Nat} {w0 w : World} {L : List Rg} {iG0 : Nat} (hG0 : L[iG0]? = some ⟨some 0, 0, 8, fun q => VU .u32 (H256 q), false⟩) {iG1 : Nat} (hG1 : L[iG1]? = some ⟨some 1, 0, 64, fun q => VU .u32 (K256 q), false⟩) {key1 : Nat → BitVec 8} {data2 : List Byte} {adata2 : Option Addr} {ndata2 cdata2 idata2 : Nat} (hdata2 : Bx L idata2 adata2 ndata2 cdata2 data2) {sealed3 : List Byte} {asealed3 : Option Addr} {nsealed3 csealed3 isealed3 : Nat} (hsealed3 : Bx L isealed3 asealed3 nsealed3 csealed3 sealed3) {r : Bool} (hR : lethelaw05_SealOneForm key1 data2 sealed3 r) (HST : St B w0 (L) w) :
    Calls Tryd.prog 5 #[AG [(32, fun q => VU .u8 (key1 q))], .slice adata2 ndata2 cdata2, .slice asealed3 nsealed3 csealed3] w fun e w' => e = .returned (.bool r) ∧ St B w0 (L) w' := by
  refine W.enter 83 Tryd.func5 rfl rfl rfl ?_
  unfold lethelaw05_SealOneForm at hR
  have edata2 := hdata2.hl; subst edata2
  have esealed3 := hsealed3.hl; subst esealed3
  refine W.seq_k fun K4 hK4 => ?_
  refine W.regionT [(0, false), (1, true)] (by kernel_rfl) ?_
  refine Plan.boxA HST rfl rfl PIn.nil fun b5 w5 hb5 h5 => ?_
  simp only [rngs, Nat.zero_add, Nat.reduceAdd, List.cons_append, List.nil_append] at h5
  refine Plan.assign_bool rfl rfl ?_
  refine Plan.nil ?_
  refine hK4 _ _ ?_; clear hK4
  refine W.seq_k fun K6 hK6 => ?_
  refine W.regionT [(0, true), (1, false), (2, true)] (by kernel_rfl) ?_
  refine Plan.move_slice rfl rfl ?_
  obtain ⟨x_8, hr7, hR⟩ := hR
  refine Plan.call (vs := [.slice adata2 data2.length cdata2, VN 200]) rfl FSealOneForm.call9 rfl (lethelaw05_short_ok (hdata2.app [_]) hr7 h5) ?_
  rintro _ w12 ⟨ay0_9, ny0_10, cy0_11, rfl, h12, hf12_0⟩
  obtain rfl := hf12_0.hl
  refine ⟨_, rfl, .inl ⟨PIn.keep PIn.nil h12, ?_⟩⟩
  refine Plan.assign_slice rfl rfl ?_
  refine Plan.nil ?_
  refine hK6 _ _ ?_; clear hK6
  refine W.seq_k fun K13 hK13 => ?_
  refine W.regionT [(0, true), (1, true), (2, true), (3, false), (4, true), (5, true), (6, true), (7, true), (8, true)] (by kernel_rfl) ?_
  refine Plan.loadA1 h12 0 rfl rfl rfl FSealOneForm.agg23 ?_
  refine Plan.move_slice rfl rfl ?_
  refine Plan.move_slice rfl rfl ?_
  obtain ⟨x_15, x_16, hr14, hR⟩ := hR
  refine Plan.call (vs := [AG [(32, fun q => VU .u8 (key1 q))], .slice ay0_9 x_8.length cy0_11, .slice asealed3 sealed3.length csealed3]) rfl FSealOneForm.call12 rfl (seal_Open_ok (iG0 := iG0 + 1) hG0 (iG1 := iG1 + 1) hG1 ((Bx.unapp (D := [_]) hf12_0).app [_]) (hsealed3.app [_]) hr14 h12) ?_
  rintro _ w22 ⟨ay0_17, py0_18, ny0_19, cy0_20, Fy0_21, rfl, h22, hf22_0⟩
  obtain rfl := hf22_0.hl
  refine ⟨_, rfl, .inr ⟨rfl, ?_⟩⟩
  refine Plan.move_tuple rfl rfl ?_
  refine Plan.extract_slice rfl rfl rfl ?_
  refine Plan.extract_int rfl rfl rfl ?_
  refine Plan.assign_slice rfl rfl ?_
  refine Plan.assign_int rfl rfl ?_
  refine Plan.nil ?_
  refine hK13 _ _ ?_; clear hK13
  refine W.seq_k fun K23 hK23 => ?_
  refine W.regionT [(0, true), (1, true), (2, false), (3, false), (4, false), (5, true), (6, true), (7, true), (8, true), (9, true)] (by kernel_rfl) ?_
  refine Plan.loadA1 h22 1 rfl rfl rfl FSealOneForm.agg23 ?_
  refine Plan.move_slice rfl rfl ?_
  refine Plan.constBytesO (PIn.cons 1 rfl PIn.nil) h22 (f := fun q => VU .u8 (lit ([120#8] : List Byte) q)) FSealOneForm.slu24 FSealOneForm.u5 FSealOneForm.sz5 FSealOneForm.zv5 (by decide) (by decide) rfl (fun _ => rfl) (fun _ => rfl) rfl (by kernel_rfl) fun b24 w24 hb24 h24 => ?_
  obtain ⟨x_26, x_27, hr25, hR⟩ := hR
  refine Plan.call (vs := [AG [(32, fun q => VU .u8 (key1 q))], .slice ay0_9 x_8.length cy0_11, .slice (some ⟨b24, 0, none⟩) 1 1]) rfl FSealOneForm.call10 rfl (seal_Seal_ok (iG0 := iG0 + 3) hG0 (iG1 := iG1 + 3) hG1 ((Bx.unapp (D := [_]) hf12_0).app [_, _, _]) (by exact (Bx.arr0 (n := 1) (cc := 1) 0 rfl (by omega) (by omega))) hr25 h24) ?_
  rintro _ w33 ⟨ay0_28, py0_29, ny0_30, cy0_31, Fy0_32, rfl, h33, hf33_0⟩
  obtain rfl := hf33_0.hl
  refine ⟨_, rfl, .inr ⟨rfl, ?_⟩⟩
  refine Plan.move_tuple rfl rfl ?_
  refine Plan.extract_slice rfl rfl rfl ?_
  refine Plan.extract_int rfl rfl rfl ?_
  refine Plan.assign_slice rfl rfl ?_
  refine Plan.assign_int rfl rfl ?_
  refine Plan.nil ?_
  refine hK23 _ _ ?_; clear hK23
  refine W.seq_k fun K34 hK34 => ?_
  refine W.seq_k fun K40 hK40 => ?_
  refine W.regionT [(0, true), (1, true), (2, true), (3, true), (4, true), (5, true), (6, true)] (by kernel_rfl) ?_
  refine Plan.move_int rfl rfl ?_
  by_cases hc41 : x_27 ≠ 0
  ·
    replace hR := ifT hR hc41
    refine Plan.cmpV (a := (((x_27 : Nat) : Int) : Int)) (b := (0 : Int)) (p := x_27 ≠ 0) (v := true) rfl rfl rfl rfl icmp_neN (decide_eq_true hc41) ?_
    refine Plan.move_bool rfl rfl ?_
    refine Plan.passed rfl ?_
    refine Plan.passed rfl ?_
    refine Plan.passed rfl ?_
    refine Plan.pickTb rfl rfl rfl ?_
    refine Plan.nil ?_
    refine hK40 _ _ ?_; clear hK40
    refine W.condT rfl ?_
    refine W.seq_k fun K42 hK42 => ?_
    refine W.regionT [(0, true)] (by kernel_rfl) ?_
    refine Plan.assign_bool rfl rfl ?_
    refine Plan.nil ?_
    refine hK42 _ _ ?_; clear hK42
    refine W.ret (thenR_ret (finR_ret ?_))
    have h43 := St.pickT (C := [_, _, _, _]) h33 [] (by decide)
    simp only [pick, List.filterMap_cons, List.filterMap_nil, List.getElem?_cons_zero, List.getElem?_cons_succ, List.cons_append, List.nil_append] at h43
    subst r
    refine RetOk.mk (.tmp_bool rfl .nil) ?_
    exact ⟨rfl, h43⟩
  ·
    replace hR := ifF hR hc41
    refine Plan.cmpV (a := (((x_27 : Nat) : Int) : Int)) (b := (0 : Int)) (p := x_27 ≠ 0) (v := false) rfl rfl rfl rfl icmp_neN (decide_eq_false hc41) ?_
    refine Plan.move_bool rfl rfl ?_
    refine Plan.move_slice rfl rfl ?_
    refine Plan.len FSealOneForm.isl24 rfl rfl ?_
    refine Plan.cmpP (a := (((x_26.length : Nat) : Int) : Int)) (b := (33 : Int)) (p := x_26.length ≠ 33) rfl rfl rfl rfl icmp_neN ?_
    refine Plan.pickFb rfl rfl rfl ?_
    refine Plan.nil ?_
    refine hK40 _ _ ?_; clear hK40
    by_cases hc44 : x_26.length ≠ 33
    ·
      replace hR := ifT hR hc44
      refine W.condT (congrArg Value.bool (decide_eq_true hc44)) ?_
      refine W.seq_k fun K45 hK45 => ?_
      refine W.regionT [(0, true)] (by kernel_rfl) ?_
      refine Plan.assign_bool rfl rfl ?_
      refine Plan.nil ?_
      refine hK45 _ _ ?_; clear hK45
      refine W.ret (thenR_ret (finR_ret ?_))
      have h46 := St.pickT (C := [_, _, _, _]) h33 [] (by decide)
      simp only [pick, List.filterMap_cons, List.filterMap_nil, List.getElem?_cons_zero, List.getElem?_cons_succ, List.cons_append, List.nil_append] at h46
      subst r
      refine RetOk.mk (.tmp_bool rfl .nil) ?_
      exact ⟨rfl, h46⟩
    ·
      replace hR := ifF hR hc44
      refine W.condF (congrArg Value.bool (decide_eq_false hc44)) ?_
      refine W.skip ?_
      refine hK34 _ _ ?_; clear hK34
      refine W.seq_k fun K47 hK47 => ?_
      refine W.block ?_
      refine W.seq_k fun K48 hK48 => ?_
      refine W.regionT [(0, true), (1, true), (2, true), (3, true)] (by kernel_rfl) ?_
      refine Plan.move_slice rfl rfl ?_
      refine Plan.len FSealOneForm.isl24 rfl rfl ?_
      refine Plan.cmpP (a := (((sealed3.length : Nat) : Int) : Int)) (b := (32 : Int)) (p := sealed3.length < 32) rfl rfl rfl rfl icmp_ltN ?_
      refine Plan.assign_bool rfl rfl ?_
      refine Plan.nil ?_
      refine hK48 _ _ ?_; clear hK48
      by_cases hc49 : sealed3.length < 32
      ·
        replace hR := ifT hR hc49
        refine W.condT (congrArg Value.bool (decide_eq_true hc49)) ?_
        refine W.seq_k fun K50 hK50 => ?_
        refine W.regionT [(0, true), (1, true), (2, true), (3, true), (4, true), (5, true), (6, true), (7, true)] (by kernel_rfl) ?_
        refine Plan.move_int rfl rfl ?_
        by_cases hc51 : x_16 = 10
        ·
          replace hR := ifT hR hc51
          refine Plan.cmpV (a := (((x_16 : Nat) : Int) : Int)) (b := (10 : Int)) (p := x_16 = 10) (v := true) rfl rfl rfl rfl icmp_eqN (decide_eq_true hc51) ?_
          refine Plan.move_bool rfl rfl ?_
          refine Plan.move_slice rfl rfl ?_
          refine Plan.len FSealOneForm.isl24 rfl rfl ?_
          refine Plan.cmpP (a := (((x_15.length : Nat) : Int) : Int)) (b := (0 : Int)) (p := x_15.length = 0) rfl rfl rfl rfl icmp_eqN ?_
          refine Plan.pickTb rfl rfl rfl ?_
          refine Plan.assign_bool rfl rfl ?_
          refine Plan.nil ?_
          refine hK50 _ _ ?_; clear hK50
          refine W.ret (blockR_ret (thenR_ret (finR_ret ?_)))
          have h52 := St.pickT (C := [_, _, _, _]) h33 [] (by decide)
          simp only [pick, List.filterMap_cons, List.filterMap_nil, List.getElem?_cons_zero, List.getElem?_cons_succ, List.cons_append, List.nil_append] at h52
          subst r
          refine RetOk.mk (.tmp_bool rfl .nil) ?_
          exact ⟨rfl, h52⟩
        ·
          replace hR := ifF hR hc51
          refine Plan.cmpV (a := (((x_16 : Nat) : Int) : Int)) (b := (10 : Int)) (p := x_16 = 10) (v := false) rfl rfl rfl rfl icmp_eqN (decide_eq_false hc51) ?_
          refine Plan.move_bool rfl rfl ?_
          refine Plan.passed rfl ?_
          refine Plan.passed rfl ?_
          refine Plan.passed rfl ?_
          refine Plan.pickFb rfl rfl rfl ?_
          refine Plan.assign_bool rfl rfl ?_
          refine Plan.nil ?_
          refine hK50 _ _ ?_; clear hK50
          refine W.ret (blockR_ret (thenR_ret (finR_ret ?_)))
          have h53 := St.pickT (C := [_, _, _, _]) h33 [] (by decide)
          simp only [pick, List.filterMap_cons, List.filterMap_nil, List.getElem?_cons_zero, List.getElem?_cons_succ, List.cons_append, List.nil_append] at h53
          subst r
          refine RetOk.mk (.tmp_bool rfl .nil) ?_
          exact ⟨rfl, h53⟩
      ·
        replace hR := ifF hR hc49
        refine W.condF (congrArg Value.bool (decide_eq_false hc49)) ?_
        refine W.seq_k fun K54 hK54 => ?_
        refine W.regionT [(0, true), (1, true), (2, true), (3, true)] (by kernel_rfl) ?_
        refine Plan.move_slice rfl rfl ?_
        refine Plan.len FSealOneForm.isl24 rfl rfl ?_
        refine Plan.cmpP (a := (((sealed3.length : Nat) : Int) : Int)) (b := (544 : Int)) (p := 544 < sealed3.length) rfl rfl rfl rfl icmp_gtN ?_
        refine Plan.assign_bool rfl rfl ?_
        refine Plan.nil ?_
        refine hK54 _ _ ?_; clear hK54
        by_cases hc55 : 544 < sealed3.length
        ·
          replace hR := ifT hR hc55
          refine W.condT (congrArg Value.bool (decide_eq_true hc55)) ?_
          refine W.seq_k fun K56 hK56 => ?_
          refine W.regionT [(0, true), (1, true), (2, true), (3, true), (4, true), (5, true), (6, true), (7, true)] (by kernel_rfl) ?_
          refine Plan.move_int rfl rfl ?_
          by_cases hc57 : x_16 = 5
          ·
            replace hR := ifT hR hc57
            refine Plan.cmpV (a := (((x_16 : Nat) : Int) : Int)) (b := (5 : Int)) (p := x_16 = 5) (v := true) rfl rfl rfl rfl icmp_eqN (decide_eq_true hc57) ?_
            refine Plan.move_bool rfl rfl ?_
            refine Plan.move_slice rfl rfl ?_
            refine Plan.len FSealOneForm.isl24 rfl rfl ?_
            refine Plan.cmpP (a := (((x_15.length : Nat) : Int) : Int)) (b := (0 : Int)) (p := x_15.length = 0) rfl rfl rfl rfl icmp_eqN ?_
            refine Plan.pickTb rfl rfl rfl ?_
            refine Plan.assign_bool rfl rfl ?_
            refine Plan.nil ?_
            refine hK56 _ _ ?_; clear hK56
            refine W.ret (blockR_ret (thenR_ret (finR_ret ?_)))
            have h58 := St.pickT (C := [_, _, _, _]) h33 [] (by decide)
            simp only [pick, List.filterMap_cons, List.filterMap_nil, List.getElem?_cons_zero, List.getElem?_cons_succ, List.cons_append, List.nil_append] at h58
            subst r
            refine RetOk.mk (.tmp_bool rfl .nil) ?_
            exact ⟨rfl, h58⟩
          ·
            replace hR := ifF hR hc57
            refine Plan.cmpV (a := (((x_16 : Nat) : Int) : Int)) (b := (5 : Int)) (p := x_16 = 5) (v := false) rfl rfl rfl rfl icmp_eqN (decide_eq_false hc57) ?_
            refine Plan.move_bool rfl rfl ?_
            refine Plan.passed rfl ?_
            refine Plan.passed rfl ?_
            refine Plan.passed rfl ?_
            refine Plan.pickFb rfl rfl rfl ?_
            refine Plan.assign_bool rfl rfl ?_
            refine Plan.nil ?_
            refine hK56 _ _ ?_; clear hK56
            refine W.ret (blockR_ret (thenR_ret (finR_ret ?_)))
            have h59 := St.pickT (C := [_, _, _, _]) h33 [] (by decide)
            simp only [pick, List.filterMap_cons, List.filterMap_nil, List.getElem?_cons_zero, List.getElem?_cons_succ, List.cons_append, List.nil_append] at h59
            subst r
            refine RetOk.mk (.tmp_bool rfl .nil) ?_
            exact ⟨rfl, h59⟩
        ·
          replace hR := ifF hR hc55
          refine W.condF (congrArg Value.bool (decide_eq_false hc55)) ?_
          refine W.seq_k fun K60 hK60 => ?_
          refine W.regionT [(0, true), (1, true), (2, true)] (by kernel_rfl) ?_
          refine Plan.move_int rfl rfl ?_
          refine Plan.cmpP (a := (((x_16 : Nat) : Int) : Int)) (b := (0 : Int)) (p := x_16 ≠ 0) rfl rfl rfl rfl icmp_neN ?_
          refine Plan.assign_bool rfl rfl ?_
          refine Plan.nil ?_
          refine hK60 _ _ ?_; clear hK60
          by_cases hc61 : x_16 ≠ 0
          ·
            replace hR := ifT hR hc61
            refine W.condT (congrArg Value.bool (decide_eq_true hc61)) ?_
            refine W.seq_k fun K62 hK62 => ?_
            refine W.regionT [(0, true), (1, true), (2, true), (3, true), (4, true), (5, true), (6, true), (7, true)] (by kernel_rfl) ?_
            refine Plan.move_int rfl rfl ?_
            by_cases hc63 : x_16 = 50
            ·
              replace hR := ifT hR hc63
              refine Plan.cmpV (a := (((x_16 : Nat) : Int) : Int)) (b := (50 : Int)) (p := x_16 = 50) (v := true) rfl rfl rfl rfl icmp_eqN (decide_eq_true hc63) ?_
              refine Plan.move_bool rfl rfl ?_
              refine Plan.move_slice rfl rfl ?_
              refine Plan.len FSealOneForm.isl24 rfl rfl ?_
              refine Plan.cmpP (a := (((x_15.length : Nat) : Int) : Int)) (b := (0 : Int)) (p := x_15.length = 0) rfl rfl rfl rfl icmp_eqN ?_
              refine Plan.pickTb rfl rfl rfl ?_
              refine Plan.assign_bool rfl rfl ?_
              refine Plan.nil ?_
              refine hK62 _ _ ?_; clear hK62
              refine W.ret (blockR_ret (thenR_ret (finR_ret ?_)))
              have h64 := St.pickT (C := [_, _, _, _]) h33 [] (by decide)
              simp only [pick, List.filterMap_cons, List.filterMap_nil, List.getElem?_cons_zero, List.getElem?_cons_succ, List.cons_append, List.nil_append] at h64
              subst r
              refine RetOk.mk (.tmp_bool rfl .nil) ?_
              exact ⟨rfl, h64⟩
            ·
              replace hR := ifF hR hc63
              refine Plan.cmpV (a := (((x_16 : Nat) : Int) : Int)) (b := (50 : Int)) (p := x_16 = 50) (v := false) rfl rfl rfl rfl icmp_eqN (decide_eq_false hc63) ?_
              refine Plan.move_bool rfl rfl ?_
              refine Plan.passed rfl ?_
              refine Plan.passed rfl ?_
              refine Plan.passed rfl ?_
              refine Plan.pickFb rfl rfl rfl ?_
              refine Plan.assign_bool rfl rfl ?_
              refine Plan.nil ?_
              refine hK62 _ _ ?_; clear hK62
              refine W.ret (blockR_ret (thenR_ret (finR_ret ?_)))
              have h65 := St.pickT (C := [_, _, _, _]) h33 [] (by decide)
              simp only [pick, List.filterMap_cons, List.filterMap_nil, List.getElem?_cons_zero, List.getElem?_cons_succ, List.cons_append, List.nil_append] at h65
              subst r
              refine RetOk.mk (.tmp_bool rfl .nil) ?_
              exact ⟨rfl, h65⟩
          ·
            replace hR := ifF hR hc61
            refine W.condF (congrArg Value.bool (decide_eq_false hc61)) ?_
            refine W.skip ?_
            refine blockR_norm ?_
            refine hK47 _ _ ?_; clear hK47
            refine W.seq_k fun K66 hK66 => ?_
            refine W.regionT [(0, true), (1, true), (2, true), (3, false), (4, true), (5, true), (6, true), (7, true), (8, true)] (by kernel_rfl) ?_
            refine Plan.loadA1 h33 3 rfl rfl rfl FSealOneForm.agg23 ?_
            refine Plan.move_slice rfl rfl ?_
            refine Plan.move_slice rfl rfl ?_
            obtain ⟨x_68, x_69, hr67, hR⟩ := hR
            refine Plan.call (vs := [AG [(32, fun q => VU .u8 (key1 q))], .slice ay0_9 x_8.length cy0_11, .slice ay0_17 x_15.length cy0_20]) rfl FSealOneForm.call10 rfl (seal_Seal_ok (iG0 := iG0 + 4) hG0 (iG1 := iG1 + 4) hG1 ((Bx.unapp (D := [_]) hf12_0).app [_, _, _, _]) (by exact (hf22_0.bx 2 rfl)) hr67 h33) ?_
            rintro _ w75 ⟨ay0_70, py0_71, ny0_72, cy0_73, Fy0_74, rfl, h75, hf75_0⟩
            obtain rfl := hf75_0.hl
            refine ⟨_, rfl, .inr ⟨rfl, ?_⟩⟩
            refine Plan.move_tuple rfl rfl ?_
            refine Plan.extract_slice rfl rfl rfl ?_
            refine Plan.extract_int rfl rfl rfl ?_
            refine Plan.assign_slice rfl rfl ?_
            refine Plan.assign_int rfl rfl ?_
            refine Plan.nil ?_
            refine hK66 _ _ ?_; clear hK66
            refine W.seq_k fun K76 hK76 => ?_
            refine W.regionT [(0, true), (1, true), (2, true), (3, true), (4, true), (5, false), (6, true), (7, true)] (by kernel_rfl) ?_
            refine Plan.move_int rfl rfl ?_
            by_cases hc77 : x_69 = 0
            ·
              replace hR := ifT hR hc77
              refine Plan.cmpV (a := (((x_69 : Nat) : Int) : Int)) (b := (0 : Int)) (p := x_69 = 0) (v := true) rfl rfl rfl rfl icmp_eqN (decide_eq_true hc77) ?_
              refine Plan.move_bool rfl rfl ?_
              refine Plan.move_slice rfl rfl ?_
              refine Plan.move_slice rfl rfl ?_
              obtain ⟨x_79, hr78, hR⟩ := hR
              refine Plan.call (vs := [.slice ay0_70 x_68.length cy0_73, .slice asealed3 sealed3.length csealed3]) rfl FSealOneForm.call14 rfl (lethelaw05_Eq_ok (by exact (hf75_0.bx 0 rfl)) (hsealed3.app [_, _, _, _, _]) hr78 h75) ?_
              rintro _ w80 ⟨rfl, h80⟩
              refine ⟨_, rfl, .inl ⟨PIn.keep PIn.nil h80, ?_⟩⟩
              refine Plan.pickTb rfl rfl rfl ?_
              refine Plan.assign_bool rfl rfl ?_
              refine Plan.nil ?_
              refine hK76 _ _ ?_; clear hK76
              refine W.ret (finR_ret ?_)
              have h81 := St.pickT (C := [_, _, _, _, _]) h80 [] (by decide)
              simp only [pick, List.filterMap_cons, List.filterMap_nil, List.getElem?_cons_zero, List.getElem?_cons_succ, List.cons_append, List.nil_append] at h81
              subst r
              refine RetOk.mk (.tmp_bool rfl .nil) ?_
              exact ⟨rfl, h81⟩
            ·
              replace hR := ifF hR hc77
              refine Plan.cmpV (a := (((x_69 : Nat) : Int) : Int)) (b := (0 : Int)) (p := x_69 = 0) (v := false) rfl rfl rfl rfl icmp_eqN (decide_eq_false hc77) ?_
              refine Plan.move_bool rfl rfl ?_
              refine Plan.passed rfl ?_
              refine Plan.passed rfl ?_
              refine Plan.passed rfl ?_
              refine Plan.pickFb rfl rfl rfl ?_
              refine Plan.assign_bool rfl rfl ?_
              refine Plan.nil ?_
              refine hK76 _ _ ?_; clear hK76
              refine W.ret (finR_ret ?_)
              have h82 := St.pickT (C := [_, _, _, _, _]) h75 [] (by decide)
              simp only [pick, List.filterMap_cons, List.filterMap_nil, List.getElem?_cons_zero, List.getElem?_cons_succ, List.cons_append, List.nil_append] at h82
              subst r
              refine RetOk.mk (.tmp_bool rfl .nil) ?_
              exact ⟨rfl, h82⟩

end Go.Proofs.YthjkmhdgenmnoaaDoor
