/-
  WALKS of the package's functions, printed by this session's own program (auto.py).
-/
import Derived.Test.YtjdgbahjpdopbaaDoorProg
import Derived.Test.YtjdgbahjpdopbaaDoorLx9
import Derived.Test.YtjdgbahjpdopbaaDoorRKdfKeys
import Derived.Test.YtjdgbahjpdopbaaDoorEls
import Derived.Test.YtjdgbahjpdopbaaDoorWKdf
import Derived.Test.YtjdgbahjpdopbaaDoorWLaw03
namespace Go.Proofs.YtjdgbahjpdopbaaDoor
set_option linter.unusedSimpArgs false
set_option linter.unusedVariables false
set_option linter.unusedSectionVars false
open Go Go.LW
theorem FKdfKeys.isl22 : ∃ el, Tryd.prog.underlying 22 = some (.slice el) := ⟨5, by kernel_rfl⟩
theorem FKdfKeys.mixed : Tryd.prog.follows .mixedOrders = true := by kernel_rfl
theorem FKdfKeys.sl22 : slB Tryd.prog 22 1 = true := by kernel_rfl
theorem FKdfKeys.call33 : callB Tryd.prog 33 = true := by kernel_rfl
theorem FKdfKeys.call34 : callB Tryd.prog 34 = true := by kernel_rfl
theorem FKdfKeys.call41 : callB Tryd.prog 41 = true := by kernel_rfl
theorem FKdfKeys.call42 : callB Tryd.prog 42 = true := by kernel_rfl
theorem FKdfKeys.call45 : callB Tryd.prog 45 = true := by kernel_rfl
theorem FKdfKeys.isl62 : ∃ el, Tryd.prog.underlying 62 = some (.slice el) := ⟨61, by kernel_rfl⟩
theorem FKdfKeys.sl62 : slB Tryd.prog 62 32 = true := by kernel_rfl
theorem FKdfKeys.arr61 : arrB Tryd.prog 61 32 1 = true := by kernel_rfl

set_option maxRecDepth 8000 in
set_option maxHeartbeats 1000000 in
theorem lethelaw03_KdfKeys_ok {B : Nat} {w0 w : World} {L : List Rg} {iG0 : Nat} (hG0 : L[iG0]? = some ⟨some 0, 0, 64, fun q => VU .u32 (K256 q), false⟩) {iG1 : Nat} (hG1 : L[iG1]? = some ⟨some 1, 0, 8, fun q => VU .u32 (H256 q), false⟩) {salt1 : List Byte} {asalt1 : Option Addr} {nsalt1 csalt1 isalt1 : Nat} (hsalt1 : Bx L isalt1 asalt1 nsalt1 csalt1 salt1) {key2 : List Byte} {akey2 : Option Addr} {nkey2 ckey2 ikey2 : Nat} (hkey2 : Bx L ikey2 akey2 nkey2 ckey2 key2) {info3 : List Byte} {ainfo3 : Option Addr} {ninfo3 cinfo3 iinfo3 : Nat} (hinfo3 : Bx L iinfo3 ainfo3 ninfo3 cinfo3 info3) {n_4 : Int} {r : Bool} (hR : lethelaw03_KdfKeys salt1 key2 info3 n_4 r) (HST : St B w0 (L) w) :
    Calls Tryd.prog 14 #[.slice asalt1 nsalt1 csalt1, .slice akey2 nkey2 ckey2, .slice ainfo3 ninfo3 cinfo3, .int .i64 n_4] w fun e w' => e = .returned (.bool r) ∧ St B w0 (L) w' := by
  refine W.enter 76 Tryd.func14 rfl rfl rfl ?_
  unfold lethelaw03_KdfKeys at hR
  have esalt1 := hsalt1.hl; subst esalt1
  have ekey2 := hkey2.hl; subst ekey2
  have einfo3 := hinfo3.hl; subst einfo3
  refine W.seq_k fun K5 hK5 => ?_
  refine W.regionT [(0, true)] (by kernel_rfl) ?_
  refine Plan.assign_bool rfl rfl ?_
  refine Plan.nil ?_
  refine hK5 _ _ ?_; clear hK5
  refine W.seq_k fun K6 hK6 => ?_
  refine W.regionT [(0, true), (1, false), (2, true), (3, false), (4, true), (5, false), (6, true), (7, true), (8, true)] (by kernel_rfl) ?_
  refine Plan.move_slice rfl rfl ?_
  obtain ⟨x_8, hr7, hR⟩ := hR
  refine Plan.call (vs := [.slice asalt1 salt1.length csalt1]) rfl FKdfKeys.call33 rfl (lethelaw03_short_ok hsalt1 hr7 HST) ?_
  rintro _ w12 ⟨ay0_9, ny0_10, cy0_11, rfl, h12, hf12_0⟩
  obtain rfl := hf12_0.hl
  refine ⟨_, rfl, .inl ⟨PIn.keep PIn.nil h12, ?_⟩⟩
  refine Plan.move_slice rfl rfl ?_
  obtain ⟨x_14, hr13, hR⟩ := hR
  refine Plan.call (vs := [.slice akey2 key2.length ckey2]) rfl FKdfKeys.call33 rfl (lethelaw03_short_ok hkey2 hr13 h12) ?_
  rintro _ w18 ⟨ay0_15, ny0_16, cy0_17, rfl, h18, hf18_0⟩
  obtain rfl := hf18_0.hl
  refine ⟨_, rfl, .inl ⟨PIn.keep PIn.nil h18, ?_⟩⟩
  refine Plan.move_slice rfl rfl ?_
  obtain ⟨x_20, hr19, hR⟩ := hR
  refine Plan.call (vs := [.slice ainfo3 info3.length cinfo3]) rfl FKdfKeys.call33 rfl (lethelaw03_short_ok hinfo3 hr19 h18) ?_
  rintro _ w24 ⟨ay0_21, ny0_22, cy0_23, rfl, h24, hf24_0⟩
  obtain rfl := hf24_0.hl
  refine ⟨_, rfl, .inl ⟨PIn.keep PIn.nil h24, ?_⟩⟩
  refine Plan.assign_slice rfl rfl ?_
  refine Plan.assign_slice rfl rfl ?_
  refine Plan.assign_slice rfl rfl ?_
  refine Plan.nil ?_
  refine hK6 _ _ ?_; clear hK6
  refine W.seq_k fun K25 hK25 => ?_
  refine W.regionT [(0, true), (1, false), (2, true)] (by kernel_rfl) ?_
  refine Plan.move_int rfl rfl ?_
  obtain ⟨x_27, hr26, hR⟩ := hR
  refine Plan.call (vs := [.int .i64 n_4, VN 12]) rfl FKdfKeys.call34 rfl (lethelaw03_rest_ok  hr26 h24) ?_
  rintro _ w28 ⟨rfl, h28⟩
  refine ⟨_, rfl, .inl ⟨PIn.keep PIn.nil h28, ?_⟩⟩
  refine Plan.assign_int rfl rfl ?_
  refine Plan.nil ?_
  refine hK25 _ _ ?_; clear hK25
  refine W.seq_k fun K29 hK29 => ?_
  refine W.regionT [(0, true), (1, true), (2, true), (3, true), (4, false), (5, true), (6, true), (7, true), (8, true), (9, true)] (by kernel_rfl) ?_
  refine Plan.move_slice rfl rfl ?_
  refine Plan.move_slice rfl rfl ?_
  refine Plan.move_slice rfl rfl ?_
  refine Plan.move_int rfl rfl ?_
  obtain ⟨x_31, x_32, hr30, hR⟩ := hR
  refine Plan.call (vs := [.slice ay0_9 x_8.length cy0_11, .slice ay0_15 x_14.length cy0_17, .slice ay0_21 x_20.length cy0_23, .int .i64 x_27]) rfl FKdfKeys.call45 rfl (kdf_Keys_ok (iG0 := iG0 + 0) hG0 (iG1 := iG1 + 0) hG1 hf12_0 hf18_0 hf24_0 hr30 h28) ?_
  rintro _ w38 ⟨ay0_33, py0_34, ny0_35, cy0_36, Fy0_37, rfl, h38, hf38_0⟩
  try dsimp only at hf38_0
  obtain rfl := hf38_0.hl
  refine ⟨_, rfl, .inl ⟨PIn.keep PIn.nil h38, ?_⟩⟩
  refine Plan.move_tuple rfl rfl ?_
  refine Plan.extract_slice rfl rfl rfl ?_
  refine Plan.extract_int rfl rfl rfl ?_
  refine Plan.assign_slice rfl rfl ?_
  refine Plan.assign_int rfl rfl ?_
  refine Plan.nil ?_
  refine hK29 _ _ ?_; clear hK29
  refine W.seq_k fun K39 hK39 => ?_
  refine W.regionT [(0, true), (1, true), (2, true), (3, true), (4, true), (5, false), (6, true), (7, true), (8, true), (9, true), (10, true)] (by kernel_rfl) ?_
  refine Plan.move_slice rfl rfl ?_
  refine Plan.move_slice rfl rfl ?_
  refine Plan.move_slice rfl rfl ?_
  refine Plan.move_int rfl rfl ?_
  obtain ⟨hc40, hR⟩ := hR
  refine Plan.mulI (a := 32) (b := x_27) rfl rfl rfl (by omega) ?_
  obtain ⟨x_42, x_43, hr41, hR⟩ := hR
  refine Plan.call (vs := [.slice ay0_9 x_8.length cy0_11, .slice ay0_15 x_14.length cy0_17, .slice ay0_21 x_20.length cy0_23, .int .i64 (32 * x_27)]) rfl FKdfKeys.call42 rfl (kdf_Derive_ok (iG0 := iG0 + 1) hG0 (iG1 := iG1 + 1) hG1 (hf12_0.app [_]) (hf18_0.app [_]) (hf24_0.app [_]) hr41 h38) ?_
  rintro _ w49 ⟨ay0_44, py0_45, ny0_46, cy0_47, Fy0_48, rfl, h49, hf49_0⟩
  try dsimp only at hf49_0
  obtain rfl := hf49_0.hl
  refine ⟨_, rfl, .inl ⟨PIn.keep PIn.nil h49, ?_⟩⟩
  refine Plan.move_tuple rfl rfl ?_
  refine Plan.extract_slice rfl rfl rfl ?_
  refine Plan.extract_int rfl rfl rfl ?_
  refine Plan.assign_slice rfl rfl ?_
  refine Plan.assign_int rfl rfl ?_
  refine Plan.nil ?_
  refine hK39 _ _ ?_; clear hK39
  refine W.seq_k fun K50 hK50 => ?_
  refine W.seq_k fun K61 hK61 => ?_
  refine W.regionT [(0, true), (1, true), (2, true), (3, true), (4, true), (5, true), (6, true), (7, true), (8, true), (9, true), (10, true), (11, true), (12, true), (13, true), (14, true), (15, true), (16, true), (17, true), (18, true)] (by kernel_rfl) ?_
  refine Plan.move_int rfl rfl ?_
  by_cases hc62 : x_32 ≠ 0
  ·
    replace hR := ifT hR hc62
    refine Plan.cmpV (a := (((x_32 : Nat) : Int) : Int)) (b := (0 : Int)) (p := x_32 ≠ 0) (v := true) rfl rfl rfl rfl icmp_neN (decide_eq_true hc62) ?_
    refine Plan.move_bool rfl rfl ?_
    refine Plan.passed rfl ?_
    refine Plan.passed rfl ?_
    refine Plan.pickTb rfl rfl rfl ?_
    refine Plan.move_bool rfl rfl ?_
    refine Plan.passed rfl ?_
    refine Plan.passed rfl ?_
    refine Plan.passed rfl ?_
    refine Plan.passed rfl ?_
    refine Plan.pickTb rfl rfl rfl ?_
    refine Plan.move_bool rfl rfl ?_
    refine Plan.passed rfl ?_
    refine Plan.passed rfl ?_
    refine Plan.passed rfl ?_
    refine Plan.passed rfl ?_
    refine Plan.passed rfl ?_
    refine Plan.pickTb rfl rfl rfl ?_
    refine Plan.nil ?_
    refine hK61 _ _ ?_; clear hK61
    refine W.condT rfl ?_
    refine W.seq_k fun K63 hK63 => ?_
    refine W.regionT [(0, true)] (by kernel_rfl) ?_
    refine Plan.assign_bool rfl rfl ?_
    refine Plan.nil ?_
    refine hK63 _ _ ?_; clear hK63
    refine W.ret (thenR_ret (finR_ret ?_))
    have h64 := St.pickT (C := [_, _]) h49 [] (by decide)
    simp only [pick, List.filterMap_cons, List.filterMap_nil, List.getElem?_cons_zero, List.getElem?_cons_succ, List.cons_append, List.nil_append] at h64
    subst r
    refine RetOk.mk (.tmp_bool rfl .nil) ?_
    exact ⟨rfl, h64⟩
  ·
    replace hR := ifF hR hc62
    refine Plan.cmpV (a := (((x_32 : Nat) : Int) : Int)) (b := (0 : Int)) (p := x_32 ≠ 0) (v := false) rfl rfl rfl rfl icmp_neN (decide_eq_false hc62) ?_
    refine Plan.move_bool rfl rfl ?_
    refine Plan.move_int rfl rfl ?_
    by_cases hc65 : x_43 ≠ 0
    ·
      replace hR := ifT hR hc65
      refine Plan.cmpV (a := (((x_43 : Nat) : Int) : Int)) (b := (0 : Int)) (p := x_43 ≠ 0) (v := true) rfl rfl rfl rfl icmp_neN (decide_eq_true hc65) ?_
      refine Plan.pickFb rfl rfl rfl ?_
      refine Plan.move_bool rfl rfl ?_
      refine Plan.passed rfl ?_
      refine Plan.passed rfl ?_
      refine Plan.passed rfl ?_
      refine Plan.passed rfl ?_
      refine Plan.pickTb rfl rfl rfl ?_
      refine Plan.move_bool rfl rfl ?_
      refine Plan.passed rfl ?_
      refine Plan.passed rfl ?_
      refine Plan.passed rfl ?_
      refine Plan.passed rfl ?_
      refine Plan.passed rfl ?_
      refine Plan.pickTb rfl rfl rfl ?_
      refine Plan.nil ?_
      refine hK61 _ _ ?_; clear hK61
      refine W.condT rfl ?_
      refine W.seq_k fun K66 hK66 => ?_
      refine W.regionT [(0, true)] (by kernel_rfl) ?_
      refine Plan.assign_bool rfl rfl ?_
      refine Plan.nil ?_
      refine hK66 _ _ ?_; clear hK66
      refine W.ret (thenR_ret (finR_ret ?_))
      have h67 := St.pickT (C := [_, _]) h49 [] (by decide)
      simp only [pick, List.filterMap_cons, List.filterMap_nil, List.getElem?_cons_zero, List.getElem?_cons_succ, List.cons_append, List.nil_append] at h67
      subst r
      refine RetOk.mk (.tmp_bool rfl .nil) ?_
      exact ⟨rfl, h67⟩
    ·
      replace hR := ifF hR hc65
      refine Plan.cmpV (a := (((x_43 : Nat) : Int) : Int)) (b := (0 : Int)) (p := x_43 ≠ 0) (v := false) rfl rfl rfl rfl icmp_neN (decide_eq_false hc65) ?_
      refine Plan.pickFb rfl rfl rfl ?_
      refine Plan.move_bool rfl rfl ?_
      refine Plan.move_slice rfl rfl ?_
      refine Plan.len FKdfKeys.isl62 rfl rfl ?_
      refine Plan.move_int rfl rfl ?_
      by_cases hc68 : ((x_31.length : Nat) : Int) ≠ x_27
      ·
        replace hR := ifT hR hc68
        refine Plan.cmpV (a := (((x_31.length : Nat) : Int) : Int)) (b := (x_27 : Int)) (p := ((x_31.length : Nat) : Int) ≠ x_27) (v := true) rfl rfl rfl rfl icmp_ne (decide_eq_true hc68) ?_
        refine Plan.pickFb rfl rfl rfl ?_
        refine Plan.move_bool rfl rfl ?_
        refine Plan.passed rfl ?_
        refine Plan.passed rfl ?_
        refine Plan.passed rfl ?_
        refine Plan.passed rfl ?_
        refine Plan.passed rfl ?_
        refine Plan.pickTb rfl rfl rfl ?_
        refine Plan.nil ?_
        refine hK61 _ _ ?_; clear hK61
        refine W.condT rfl ?_
        refine W.seq_k fun K69 hK69 => ?_
        refine W.regionT [(0, true)] (by kernel_rfl) ?_
        refine Plan.assign_bool rfl rfl ?_
        refine Plan.nil ?_
        refine hK69 _ _ ?_; clear hK69
        refine W.ret (thenR_ret (finR_ret ?_))
        have h70 := St.pickT (C := [_, _]) h49 [] (by decide)
        simp only [pick, List.filterMap_cons, List.filterMap_nil, List.getElem?_cons_zero, List.getElem?_cons_succ, List.cons_append, List.nil_append] at h70
        subst r
        refine RetOk.mk (.tmp_bool rfl .nil) ?_
        exact ⟨rfl, h70⟩
      ·
        replace hR := ifF hR hc68
        refine Plan.cmpV (a := (((x_31.length : Nat) : Int) : Int)) (b := (x_27 : Int)) (p := ((x_31.length : Nat) : Int) ≠ x_27) (v := false) rfl rfl rfl rfl icmp_ne (decide_eq_false hc68) ?_
        refine Plan.pickFb rfl rfl rfl ?_
        refine Plan.move_bool rfl rfl ?_
        refine Plan.move_slice rfl rfl ?_
        refine Plan.len FKdfKeys.isl22 rfl rfl ?_
        refine Plan.move_int rfl rfl ?_
        obtain ⟨hc71, hR⟩ := hR
        refine Plan.mulI (a := 32) (b := x_27) rfl rfl rfl (by omega) ?_
        refine Plan.cmpP (a := (((x_42.length : Nat) : Int) : Int)) (b := ((32 * x_27) : Int)) (p := ((x_42.length : Nat) : Int) ≠ (32 * x_27)) rfl rfl rfl rfl icmp_ne ?_
        refine Plan.pickFb rfl rfl rfl ?_
        refine Plan.nil ?_
        refine hK61 _ _ ?_; clear hK61
        by_cases hc72 : ((x_42.length : Nat) : Int) ≠ (32 * x_27)
        ·
          replace hR := ifT hR hc72
          refine W.condT (congrArg Value.bool (decide_eq_true hc72)) ?_
          refine W.seq_k fun K73 hK73 => ?_
          refine W.regionT [(0, true)] (by kernel_rfl) ?_
          refine Plan.assign_bool rfl rfl ?_
          refine Plan.nil ?_
          refine hK73 _ _ ?_; clear hK73
          refine W.ret (thenR_ret (finR_ret ?_))
          have h74 := St.pickT (C := [_, _]) h49 [] (by decide)
          simp only [pick, List.filterMap_cons, List.filterMap_nil, List.getElem?_cons_zero, List.getElem?_cons_succ, List.cons_append, List.nil_append] at h74
          subst r
          refine RetOk.mk (.tmp_bool rfl .nil) ?_
          exact ⟨rfl, h74⟩
        ·
          replace hR := ifF hR hc72
          refine W.condF (congrArg Value.bool (decide_eq_false hc72)) ?_
          refine W.skip ?_
          refine hK50 _ _ ?_; clear hK50
          refine W.seq_k fun K75 hK75 => ?_
          refine W.seq_k fun K76 hK76 => ?_
          refine W.regionT [(0, true)] (by kernel_rfl) ?_
          refine Plan.assign_int rfl rfl ?_
          refine Plan.nil ?_
          refine hK76 _ _ ?_; clear hK76
          obtain ⟨x118, hI118, hR0118⟩ := hR
          refine W.cutN (fun e w => x118 = some () ∧ EnvHas e [] ∧ St B w0 (L) w) ?_ ?_
          ·
            refine W.block ?_
            have h119 := St.pickT (C := [_, _]) h49 [1, 0] (by decide)
            simp only [pick, List.filterMap_cons, List.filterMap_nil, List.getElem?_cons_zero, List.getElem?_cons_succ, List.cons_append, List.nil_append] at h119
            refine W.iter hI118 (fun (s118 : ((List (Nat → BitVec 8)) × (List Byte) × Nat)) e w => ∃ n_l_115 : Nat, ∃ al_115 : Option Addr, ∃ pl_115 : Option Nat, ∃ cl_115 : Nat, ∃ Fl_115 : Nat → Value, ∃ ab116 : Option Addr, ∃ pb116 : Option Nat, ∃ cb116 : Nat, ∃ Fb116 : Nat → Byte, EnvHas e [(3, .int .i64 x_27), (9, .slice al_115 n_l_115 cl_115), (11, .slice ab116 x_42.length cb116), (13, VN s118.2.2)] ∧ St B w0 (⟨pl_115, 0, cl_115 * 32, Fl_115, true⟩ :: ⟨pb116, 0, cb116, fun q => VU .u8 (Fb116 q), true⟩ :: L) w ∧ LO D61 [] al_115 pl_115 n_l_115 cl_115 Fl_115 s118.1 ∧ Ow ab116 pb116 x_42.length cb116 Fb116 s118.2.1) ⟨x_31.length, ay0_33, py0_34, cy0_36, Fy0_37, ay0_44, py0_45, cy0_47, Fy0_48, (EnvHas.cons rfl (EnvHas.cons rfl (EnvHas.cons rfl (EnvHas.cons rfl EnvHas.nil)))), h119, hf38_0, hf49_0⟩ ?_
            rintro ⟨l_115, b116, i_117⟩ o118 hR hx118 ev120 wl120 ⟨n_l_115, al_115, pl_115, cl_115, Fl_115, ab116, pb116, cb116, Fb116, he120, h120, hl_115, hb116⟩
            try dsimp only at he120 h120 hl_115 hb116
            obtain rfl : List.length (α := (Nat → BitVec 8)) l_115 = n_l_115 := hl_115.hl
            obtain ⟨ev120, rfl⟩ := he120.open
            unfold lethelaw03_KdfKeys_l0 at hR
            refine W.seq_k fun K121 hK121 => ?_
            refine W.seq_k fun K122 hK122 => ?_
            refine W.regionT [(0, true), (1, true), (2, true)] (by kernel_rfl) ?_
            refine Plan.move_int rfl rfl ?_
            refine Plan.move_int rfl rfl ?_
            refine Plan.cmpP (a := (((i_117 : Nat) : Int) : Int)) (b := (x_27 : Int)) (p := ((i_117 : Nat) : Int) < x_27) rfl rfl rfl rfl icmp_lt ?_
            refine Plan.nil ?_
            refine hK122 _ _ ?_; clear hK122
            by_cases hc123 : ((i_117 : Nat) : Int) < x_27
            ·
              replace hR := ifT hR hc123
              refine W.condT (congrArg Value.bool (decide_eq_true hc123)) ?_
              refine W.skip ?_
              refine hK121 _ _ ?_; clear hK121
              refine W.seq_k fun K124 hK124 => ?_
              refine W.block ?_
              refine W.seq_k fun K125 hK125 => ?_
              refine W.regionD FKdfKeys.mixed [(0, true), (1, true), (2, true), (3, true), (4, true), (5, true), (6, true), (7, true), (8, true), (9, true), (10, true), (11, false), (12, true)] (by kernel_rfl) ?_
              have h126 := h120.drew
              refine Plan.move_slice rfl rfl ?_
              refine Plan.move_int rfl rfl ?_
              obtain ⟨hc127, hR⟩ := hR
              refine Plan.idxLVS (D := D61) (j := i_117) h126 (LO.lvf D61_flat hl_115 0 rfl) FKdfKeys.sl62 rfl rfl rfl hc127 ?_
              refine Plan.slLO (D := D61) (sz := 32) (j := i_117) h126 (fun _ => 0#8) 0 hl_115 rfl (fun x => x) (fun _ _ => rfl) (fun _ h => h) FKdfKeys.arr61 rfl rfl hc127 rfl (by decide) ?_
              intro G128 ho128 h128 hv128
              simp only [List.cons_append, List.nil_append, List.set_cons_zero, List.set_cons_succ] at h128 hv128
              refine Plan.move_slice rfl rfl ?_
              refine Plan.move_int rfl rfl ?_
              obtain ⟨hc129, hR⟩ := hR
              refine Plan.mulN (a := 32) (b := i_117) rfl rfl rfl (by omega) ?_
              refine Plan.move_int rfl rfl ?_
              obtain ⟨hc130, hR⟩ := hR
              refine Plan.mulN (a := 32) (b := i_117) rfl rfl rfl (by omega) ?_
              obtain ⟨hc131, hR⟩ := hR
              refine Plan.addN (a := (32 * i_117)) (b := 32) rfl rfl rfl (by omega) ?_
              obtain ⟨hc132, hR⟩ := hR
              have hm133 := hb116.hc
              refine Plan.slSl (lo := (32 * i_117)) (hi := ((32 * i_117) + 32)) FKdfKeys.sl22 rfl rfl ⟨_, rfl⟩ ⟨_, rfl⟩ (by omega) ?_
              obtain ⟨x_135, hr134, hR⟩ := hR
              refine Plan.call (vs := [.slice (al_115.map fun z => ⟨z.block, z.off + i_117 * 32, none⟩) 32 32, .slice (if cb116 = (32 * i_117) then ab116 else (ab116).map (·.add ((32 * i_117) * 1))) (((32 * i_117) + 32) - (32 * i_117)) (cb116 - (32 * i_117))]) rfl FKdfKeys.call41 rfl (lethelaw03_Eq_ok (by exact (Bx.move (j := 0) hv128 rfl rfl)) (by exact ((hb116.bx 1 rfl).seg (lo := (32 * i_117)) (hi := ((32 * i_117) + 32)) hc132)) hr134 h128) ?_
              rintro _ w136 ⟨rfl, h136⟩
              refine ⟨_, rfl, .inl ⟨PIn.keep PIn.nil h136, ?_⟩⟩
              refine Plan.not rfl rfl ?_
              refine Plan.nil ?_
              refine hK125 _ _ ?_; clear hK125
              by_cases hc137 : x_135 = true
              ·
                replace hR := ifT hR hc137
                refine W.condF (congrArg Value.bool (congrArg Bool.not hc137)) ?_
                refine W.skip ?_
                refine blockR_norm ?_
                refine hK124 _ _ ?_; clear hK124
                refine W.regionT [(0, true), (1, true), (2, true)] (by kernel_rfl) ?_
                refine Plan.move_int rfl rfl ?_
                obtain ⟨hc138, hR⟩ := hR
                refine Plan.addN (a := i_117) (b := 1) rfl rfl rfl (by omega) ?_
                refine Plan.assign_int rfl rfl ?_
                refine Plan.nil ?_
                exact iterR_norm ⟨_, hR, l_115.length, al_115, pl_115, cl_115, (fun q => VU .u8 (G128 q)), ab116, pb116, cb116, Fb116, (EnvHas.cons rfl (EnvHas.cons rfl (EnvHas.cons rfl (EnvHas.cons rfl EnvHas.nil)))), h136, ho128, hb116⟩
              ·
                replace hR := ifF hR hc137
                refine W.condT (congrArg Value.bool (congrArg Bool.not (Bool.eq_false_iff.2 hc137))) ?_
                refine W.seq_k fun K139 hK139 => ?_
                refine W.regionT [(0, true)] (by kernel_rfl) ?_
                refine Plan.assign_bool rfl rfl ?_
                refine Plan.nil ?_
                refine hK139 _ _ ?_; clear hK139
                refine W.ret (blockR_ret (thenR_ret (iterR_ret (blockR_ret (thenR_ret (thenR_ret (finR_ret ?_)))))))
                have h140 := St.pickT (C := [_, _]) h136 [] (by decide)
                simp only [pick, List.filterMap_cons, List.filterMap_nil, List.getElem?_cons_zero, List.getElem?_cons_succ, List.cons_append, List.nil_append] at h140
                replace hR := hR.2
                subst r
                refine RetOk.mk (.tmp_bool rfl .nil) ?_
                exact ⟨rfl, h140⟩
            ·
              replace hR := ifF hR hc123
              refine W.condF (congrArg Value.bool (decide_eq_false hc123)) ?_
              refine W.exit (thenR_exit (iterR_exit (blockR_here ?_)))
              have h141 := St.pickT (C := [_, _]) h120 [] (by decide)
              simp only [pick, List.filterMap_cons, List.filterMap_nil, List.getElem?_cons_zero, List.getElem?_cons_succ, List.cons_append, List.nil_append] at h141
              exact ⟨(hx118 _ hR).symm, EnvHas.nil, h141⟩
          ·
            rintro ev142 wl142 ⟨hy142, he142, h142⟩
            obtain ⟨ev142, rfl⟩ := he142.open
            replace hR := hR0118  hy142
            refine hK75 _ _ ?_; clear hK75
            refine W.seq_k fun K143 hK143 => ?_
            refine W.regionT [(0, true)] (by kernel_rfl) ?_
            refine Plan.assign_bool rfl rfl ?_
            refine Plan.nil ?_
            refine hK143 _ _ ?_; clear hK143
            refine W.ret (finR_ret ?_)
            subst r
            refine RetOk.mk (.tmp_bool rfl .nil) ?_
            exact ⟨rfl, h142⟩

end Go.Proofs.YtjdgbahjpdopbaaDoor
