/-
  WALKS of the package's functions, printed by this session's own program (auto.py).
-/
import Derived.Test.YtjdgbahjpdopbaaDoorProg
import Derived.Test.YtjdgbahjpdopbaaDoorLx5
import Derived.Test.YtjdgbahjpdopbaaDoorRKdfExpands
import Derived.Test.YtjdgbahjpdopbaaDoorWKdf
import Derived.Test.YtjdgbahjpdopbaaDoorWLaw03
namespace Go.Proofs.YtjdgbahjpdopbaaDoor
set_option linter.unusedSimpArgs false
set_option linter.unusedVariables false
set_option linter.unusedSectionVars false
open Go Go.LW
theorem FKdfExpands.slu22 : Tryd.prog.underlying 22 = some (.slice 5) := by kernel_rfl
theorem FKdfExpands.u5 : Tryd.prog.underlying 5 = some (.int .u8) := by kernel_rfl
theorem FKdfExpands.sz5 : szT Tryd.prog 5 1 = true := by kernel_rfl
theorem FKdfExpands.zv5 : (Tryd.prog.info? 5).bind (·.zero) = some (VU .u8 0#8) := by kernel_rfl
theorem FKdfExpands.zv22 : (Tryd.prog.info? 22).bind (·.zero) = some (.slice none 0 0) := by kernel_rfl
theorem FKdfExpands.slu75 : Tryd.prog.underlying 75 = some (.slice 22) := by kernel_rfl
theorem FKdfExpands.sz22 : szT Tryd.prog 22 1 = true := by kernel_rfl
theorem FKdfExpands.z32 : zeroIs Tryd.prog 32 [(32, fun _ => VU .u8 0#8)] := zeroIs_agg (by kernel_rfl)
theorem FKdfExpands.isl22 : ∃ el, Tryd.prog.underlying 22 = some (.slice el) := ⟨5, by kernel_rfl⟩
theorem FKdfExpands.mixed : Tryd.prog.follows .mixedOrders = true := by kernel_rfl
theorem FKdfExpands.sl22 : slB Tryd.prog 22 1 = true := by kernel_rfl
theorem FKdfExpands.some3 : (Tryd.prog.underlying 3).isSome = true := by kernel_rfl
theorem FKdfExpands.arr32 : arrB Tryd.prog 32 32 1 = true := by kernel_rfl
theorem FKdfExpands.sz32 : szT Tryd.prog 32 32 = true := by kernel_rfl
theorem FKdfExpands.call36 : callB Tryd.prog 36 = true := by kernel_rfl
theorem FKdfExpands.call33 : callB Tryd.prog 33 = true := by kernel_rfl
theorem FKdfExpands.call34 : callB Tryd.prog 34 = true := by kernel_rfl
theorem FKdfExpands.el22 : elD Tryd.prog 22 = some (1, 1, some (VU .u8 0#8)) := by kernel_rfl
theorem FKdfExpands.call37 : callB Tryd.prog 37 = true := by kernel_rfl
theorem FKdfExpands.call40 : callB Tryd.prog 40 = true := by kernel_rfl
theorem FKdfExpands.call41 : callB Tryd.prog 41 = true := by kernel_rfl
theorem FKdfExpands.call42 : callB Tryd.prog 42 = true := by kernel_rfl

set_option maxRecDepth 8000 in
set_option maxHeartbeats 1000000 in
theorem lethelaw03_KdfExpands_ok {B : Nat} {w0 w : World} {L : List Rg} {iG0 : Nat} (hG0 : L[iG0]? = some ⟨some 0, 0, 64, fun q => VU .u32 (K256 q), false⟩) {iG1 : Nat} (hG1 : L[iG1]? = some ⟨some 1, 0, 8, fun q => VU .u32 (H256 q), false⟩) {prk1 : List Byte} {aprk1 : Option Addr} {nprk1 cprk1 iprk1 : Nat} (hprk1 : Bx L iprk1 aprk1 nprk1 cprk1 prk1) {info2 : List Byte} {ainfo2 : Option Addr} {ninfo2 cinfo2 iinfo2 : Nat} (hinfo2 : Bx L iinfo2 ainfo2 ninfo2 cinfo2 info2) {n_3 : Int} {less4 : Int} {r : Bool} (hR : lethelaw03_KdfExpands prk1 info2 n_3 less4 r) (HST : St B w0 (L) w) :
    Calls Tryd.prog 11 #[.slice aprk1 nprk1 cprk1, .slice ainfo2 ninfo2 cinfo2, .int .i64 n_3, .int .i64 less4] w fun e w' => e = .returned (.bool r) ∧ St B w0 (L) w' := by
  refine W.enter 128 Tryd.func11 rfl rfl rfl ?_
  unfold lethelaw03_KdfExpands at hR
  have eprk1 := hprk1.hl; subst eprk1
  have einfo2 := hinfo2.hl; subst einfo2
  refine W.seq_k fun K5 hK5 => ?_
  refine W.regionT [(0, true)] (by kernel_rfl) ?_
  refine Plan.assign_bool rfl rfl ?_
  refine Plan.nil ?_
  refine hK5 _ _ ?_; clear hK5
  refine W.seq_k fun K6 hK6 => ?_
  refine W.regionT [(0, true), (1, false), (2, true), (3, false), (4, true), (5, true)] (by kernel_rfl) ?_
  refine Plan.move_slice rfl rfl ?_
  obtain ⟨x_8, hr7, hR⟩ := hR
  refine Plan.call (vs := [.slice aprk1 prk1.length cprk1]) rfl FKdfExpands.call33 rfl (lethelaw03_short_ok hprk1 hr7 HST) ?_
  rintro _ w12 ⟨ay0_9, ny0_10, cy0_11, rfl, h12, hf12_0⟩
  obtain rfl := hf12_0.hl
  refine ⟨_, rfl, .inl ⟨PIn.keep PIn.nil h12, ?_⟩⟩
  refine Plan.move_slice rfl rfl ?_
  obtain ⟨x_14, hr13, hR⟩ := hR
  refine Plan.call (vs := [.slice ainfo2 info2.length cinfo2]) rfl FKdfExpands.call33 rfl (lethelaw03_short_ok hinfo2 hr13 h12) ?_
  rintro _ w18 ⟨ay0_15, ny0_16, cy0_17, rfl, h18, hf18_0⟩
  obtain rfl := hf18_0.hl
  refine ⟨_, rfl, .inl ⟨PIn.keep PIn.nil h18, ?_⟩⟩
  refine Plan.assign_slice rfl rfl ?_
  refine Plan.assign_slice rfl rfl ?_
  refine Plan.nil ?_
  refine hK6 _ _ ?_; clear hK6
  refine W.seq_k fun K19 hK19 => ?_
  refine W.regionT [(0, true), (1, false), (2, true)] (by kernel_rfl) ?_
  refine Plan.move_int rfl rfl ?_
  obtain ⟨x_21, hr20, hR⟩ := hR
  refine Plan.call (vs := [.int .i64 n_3, VN 400]) rfl FKdfExpands.call34 rfl (lethelaw03_rest_ok  hr20 h18) ?_
  rintro _ w22 ⟨rfl, h22⟩
  refine ⟨_, rfl, .inl ⟨PIn.keep PIn.nil h22, ?_⟩⟩
  refine Plan.assign_int rfl rfl ?_
  refine Plan.nil ?_
  refine hK19 _ _ ?_; clear hK19
  refine W.seq_k fun K23 hK23 => ?_
  refine W.regionT [(0, true), (1, true), (2, true), (3, false), (4, true), (5, true), (6, true), (7, true), (8, true)] (by kernel_rfl) ?_
  refine Plan.move_slice rfl rfl ?_
  refine Plan.move_slice rfl rfl ?_
  refine Plan.move_int rfl rfl ?_
  obtain ⟨x_25, x_26, hr24, hR⟩ := hR
  refine Plan.call (vs := [.slice ay0_9 x_8.length cy0_11, .slice ay0_15 x_14.length cy0_17, .int .i64 x_21]) rfl FKdfExpands.call40 rfl (kdf_Expand_ok (iG0 := iG0 + 0) hG0 (iG1 := iG1 + 0) hG1 hf12_0 hf18_0 hr24 h22) ?_
  rintro _ w32 ⟨ay0_27, py0_28, ny0_29, cy0_30, Fy0_31, rfl, h32, hf32_0⟩
  obtain rfl := hf32_0.hl
  refine ⟨_, rfl, .inl ⟨PIn.keep PIn.nil h32, ?_⟩⟩
  refine Plan.move_tuple rfl rfl ?_
  refine Plan.extract_slice rfl rfl rfl ?_
  refine Plan.extract_int rfl rfl rfl ?_
  refine Plan.assign_slice rfl rfl ?_
  refine Plan.assign_int rfl rfl ?_
  refine Plan.nil ?_
  refine hK23 _ _ ?_; clear hK23
  refine W.seq_k fun K33 hK33 => ?_
  refine W.seq_k fun K39 hK39 => ?_
  refine W.regionT [(0, true), (1, true), (2, true), (3, true), (4, true), (5, true), (6, true), (7, true)] (by kernel_rfl) ?_
  refine Plan.move_int rfl rfl ?_
  by_cases hc40 : x_26 ≠ 0
  ·
    replace hR := ifT hR hc40
    refine Plan.cmpV (a := (((x_26 : Nat) : Int) : Int)) (b := (0 : Int)) (p := x_26 ≠ 0) (v := true) rfl rfl rfl rfl icmp_neN (decide_eq_true hc40) ?_
    refine Plan.move_bool rfl rfl ?_
    refine Plan.passed rfl ?_
    refine Plan.passed rfl ?_
    refine Plan.passed rfl ?_
    refine Plan.passed rfl ?_
    refine Plan.pickTb rfl rfl rfl ?_
    refine Plan.nil ?_
    refine hK39 _ _ ?_; clear hK39
    refine W.condT rfl ?_
    refine W.seq_k fun K41 hK41 => ?_
    refine W.regionT [(0, true)] (by kernel_rfl) ?_
    refine Plan.assign_bool rfl rfl ?_
    refine Plan.nil ?_
    refine hK41 _ _ ?_; clear hK41
    refine W.ret (thenR_ret (finR_ret ?_))
    have h42 := St.pickT (C := [_]) h32 [] (by decide)
    simp only [pick, List.filterMap_cons, List.filterMap_nil, List.getElem?_cons_zero, List.getElem?_cons_succ, List.cons_append, List.nil_append] at h42
    subst r
    refine RetOk.mk (.tmp_bool rfl .nil) ?_
    exact ⟨rfl, h42⟩
  ·
    replace hR := ifF hR hc40
    refine Plan.cmpV (a := (((x_26 : Nat) : Int) : Int)) (b := (0 : Int)) (p := x_26 ≠ 0) (v := false) rfl rfl rfl rfl icmp_neN (decide_eq_false hc40) ?_
    refine Plan.move_bool rfl rfl ?_
    refine Plan.move_slice rfl rfl ?_
    refine Plan.len FKdfExpands.isl22 rfl rfl ?_
    refine Plan.move_int rfl rfl ?_
    refine Plan.cmpP (a := (((x_25.length : Nat) : Int) : Int)) (b := (x_21 : Int)) (p := ((x_25.length : Nat) : Int) ≠ x_21) rfl rfl rfl rfl icmp_ne ?_
    refine Plan.pickFb rfl rfl rfl ?_
    refine Plan.nil ?_
    refine hK39 _ _ ?_; clear hK39
    by_cases hc43 : ((x_25.length : Nat) : Int) ≠ x_21
    ·
      replace hR := ifT hR hc43
      refine W.condT (congrArg Value.bool (decide_eq_true hc43)) ?_
      refine W.seq_k fun K44 hK44 => ?_
      refine W.regionT [(0, true)] (by kernel_rfl) ?_
      refine Plan.assign_bool rfl rfl ?_
      refine Plan.nil ?_
      refine hK44 _ _ ?_; clear hK44
      refine W.ret (thenR_ret (finR_ret ?_))
      have h45 := St.pickT (C := [_]) h32 [] (by decide)
      simp only [pick, List.filterMap_cons, List.filterMap_nil, List.getElem?_cons_zero, List.getElem?_cons_succ, List.cons_append, List.nil_append] at h45
      subst r
      refine RetOk.mk (.tmp_bool rfl .nil) ?_
      exact ⟨rfl, h45⟩
    ·
      replace hR := ifF hR hc43
      refine W.condF (congrArg Value.bool (decide_eq_false hc43)) ?_
      refine W.skip ?_
      refine hK33 _ _ ?_; clear hK33
      refine W.seq_k fun K46 hK46 => ?_
      refine W.regionT [(0, true)] (by kernel_rfl) ?_
      refine Plan.assign_slice rfl rfl ?_
      refine Plan.nil ?_
      refine hK46 _ _ ?_; clear hK46
      refine W.seq_k fun K47 hK47 => ?_
      refine W.seq_k fun K48 hK48 => ?_
      refine W.regionT [(0, true)] (by kernel_rfl) ?_
      refine Plan.assign_int rfl rfl ?_
      refine Plan.nil ?_
      refine hK48 _ _ ?_; clear hK48
      have h127 := h32.nilR
      obtain ⟨x126, hI126, hR0126⟩ := hR
      refine W.cutN (fun e w => ∃ y_l_125 : List Byte, x126 = some y_l_125 ∧ ∃ al_125 : Option Addr, ∃ pl_125 : Option Nat, ∃ cl_125 : Nat, ∃ Fl_125 : Nat → Byte, EnvHas e [(0, .slice ay0_9 x_8.length cy0_11), (1, .slice ay0_15 x_14.length cy0_17), (2, .int .i64 x_21), (3, .int .i64 less4), (9, .slice al_125 x_25.length cl_125)] ∧ St B w0 (⟨pl_125, 0, cl_125, fun q => VU .u8 (Fl_125 q), true⟩ :: L) w ∧ Ow al_125 pl_125 x_25.length cl_125 Fl_125 y_l_125) ?_ ?_
      ·
        refine W.block ?_
        have h128 := St.pickT (C := [_, _]) h127 [1, 0] (by decide)
        simp only [pick, List.filterMap_cons, List.filterMap_nil, List.getElem?_cons_zero, List.getElem?_cons_succ, List.cons_append, List.nil_append] at h128
        refine W.iter hI126 (fun (s126 : ((List Byte) × (List Byte) × Nat)) e w => ∃ al_121 : Option Addr, ∃ pl_121 : Option Nat, ∃ cl_121 : Nat, ∃ Fl_121 : Nat → Byte, ∃ at122 : Option Addr, ∃ pt122 : Option Nat, ∃ ct122 : Nat, ∃ Ft122 : Nat → Byte, EnvHas e [(0, .slice ay0_9 x_8.length cy0_11), (1, .slice ay0_15 x_14.length cy0_17), (2, .int .i64 x_21), (3, .int .i64 less4), (9, .slice al_121 x_25.length cl_121), (11, .slice at122 s126.2.1.length ct122), (12, VN s126.2.2)] ∧ St B w0 (⟨pl_121, 0, cl_121, fun q => VU .u8 (Fl_121 q), true⟩ :: ⟨pt122, 0, ct122, fun q => VU .u8 (Ft122 q), true⟩ :: L) w ∧ Ow al_121 pl_121 x_25.length cl_121 Fl_121 s126.1 ∧ Ow at122 pt122 s126.2.1.length ct122 Ft122 s126.2.1) ⟨ay0_27, py0_28, cy0_30, Fy0_31, none, none, 0, (fun _ => 0#8), (EnvHas.cons rfl (EnvHas.cons rfl (EnvHas.cons rfl (EnvHas.cons rfl (EnvHas.cons rfl (EnvHas.cons rfl (EnvHas.cons rfl EnvHas.nil))))))), h128, hf32_0, Ow.nil⟩ ?_
        rintro ⟨l_121, t122, i_124⟩ o126 hR hx126 ev129 wl129 ⟨al_121, pl_121, cl_121, Fl_121, at122, pt122, ct122, Ft122, he129, h129, hl_121, ht122⟩
        obtain ⟨ev129, rfl⟩ := he129.open
        unfold lethelaw03_KdfExpands_l0 at hR
        refine W.seq_k fun K130 hK130 => ?_
        refine W.seq_k fun K131 hK131 => ?_
        refine W.regionT [(0, true), (1, true), (2, true), (3, true)] (by kernel_rfl) ?_
        refine Plan.move_int rfl rfl ?_
        obtain ⟨hc132, hR⟩ := hR
        refine Plan.mulN (a := 32) (b := i_124) rfl rfl rfl (by omega) ?_
        refine Plan.move_int rfl rfl ?_
        refine Plan.cmpP (a := ((((32 * i_124) : Nat) : Int) : Int)) (b := (x_21 : Int)) (p := (((32 * i_124) : Nat) : Int) < x_21) rfl rfl rfl rfl icmp_lt ?_
        refine Plan.nil ?_
        refine hK131 _ _ ?_; clear hK131
        by_cases hc133 : (((32 * i_124) : Nat) : Int) < x_21
        ·
          replace hR := ifT hR hc133
          refine W.condT (congrArg Value.bool (decide_eq_true hc133)) ?_
          refine W.skip ?_
          refine hK130 _ _ ?_; clear hK130
          refine W.seq_k fun K134 hK134 => ?_
          refine W.block ?_
          refine W.seq_k fun K135 hK135 => ?_
          refine W.regionT [(0, true), (1, true), (2, true), (3, true), (4, true), (5, true), (6, false), (7, false), (8, false), (9, false), (10, false)] (by kernel_rfl) ?_
          refine Plan.move_slice rfl rfl ?_
          refine Plan.move_slice rfl rfl ?_
          refine Plan.move_slice rfl rfl ?_
          refine Plan.move_int rfl rfl ?_
          obtain ⟨hc136, hR⟩ := hR
          refine Plan.addN (a := i_124) (b := 1) rfl rfl rfl (by omega) ?_
          refine Plan.convNU .u8 (a := (i_124 + 1)) FKdfExpands.u5 FKdfExpands.some3 rfl rfl ?_
          refine Plan.buildSlice h129 (ps := [(1, fun q => VU .u8 (lit ([(BitVec.ofNat 8 (i_124 + 1))] : List Byte) q))]) FKdfExpands.slu22 FKdfExpands.sz5 FKdfExpands.zv5 (by decide) (by decide) rfl rfl rfl (EffO.keep PIn.nil) fun b137 w137 hb137 h137 => ?_
          simp only [rngs, List.cons_append, List.nil_append] at h137
          have ho137 : Ow (some ⟨b137, 0, none⟩) (some b137) ([(BitVec.ofNat 8 (i_124 + 1))] : List Byte).length 1 (lit ([(BitVec.ofNat 8 (i_124 + 1))] : List Byte)) ([(BitVec.ofNat 8 (i_124 + 1))] : List Byte) := ⟨.inr ⟨b137, rfl, rfl⟩, Nat.le_refl _, rfl, fun q _ => rfl⟩
          refine Plan.buildSlice h137 (ps := [(3, fun i => .slice ((fun i => ([at122, ay0_15, some ⟨b137, 0, none⟩] : List (Option Addr)).getD i none) i) ((fun i => ([t122.length, x_14.length, ([(BitVec.ofNat 8 (i_124 + 1))] : List Byte).length] : List Nat).getD i 0) i) ((fun i => ([ct122, cy0_17, 1] : List Nat).getD i 0) i))]) FKdfExpands.slu75 FKdfExpands.sz22 FKdfExpands.zv22 (by decide) (by decide) rfl rfl rfl (EffO.keep PIn.nil) fun b139 w139 hb139 h139 => ?_
          simp only [rngs, List.cons_append, List.nil_append] at h139
          obtain ⟨x_141, hr140, hR⟩ := hR
          refine Plan.call (vs := [.slice ay0_9 x_8.length cy0_11, .slice (some ⟨b139, 0, none⟩) 3 3]) rfl FKdfExpands.call36 rfl (kdf_Mac_ok (iG0 := iG0 + 4) hG0 (iG1 := iG1 + 4) hG1 (hf12_0.app [_, _, _, _]) (by exact (Bss.of 0 rfl rfl (fun i hi => match i, hi with | 0, _ => ⟨_, (ht122.bx 3 rfl)⟩ | 1, _ => ⟨_, (hf18_0.app [_, _, _, _])⟩ | 2, _ => ⟨_, (ho137.bx 1 rfl)⟩ | k + 3, hk => absurd hk (by omega)))) hr140 h139) ?_
          rintro _ w142 ⟨rfl, h142⟩
          refine ⟨_, rfl, .inl ⟨PIn.keep PIn.nil h142, ?_⟩⟩
          refine Plan.alloc h142 rfl FKdfExpands.z32 PIn.nil fun b143 w143 hb143 h143 => ?_
          simp only [rngs, Nat.zero_add, Nat.reduceAdd, List.cons_append, List.nil_append] at h143
          refine Plan.storeA (f' := fun q => VU .u8 (x_141 q)) h143 0 rfl rfl rfl rfl (fun _ _ => rfl) FKdfExpands.sz32 rfl fun w144 h144 => ?_
          simp only [List.cons_append, List.nil_append, List.set_cons_zero, List.set_cons_succ] at h144
          refine Plan.nil ?_
          refine hK135 _ _ ?_; clear hK135
          refine W.seq_k fun K145 hK145 => ?_
          refine W.regionT [(0, true), (1, false), (2, true)] (by kernel_rfl) ?_
          refine Plan.slArrO (lo := 0) (hi := 32) (m := 32) (c := 32) (o' := 0) FKdfExpands.arr32 rfl rfl rfl rfl (by omega) (by omega) (by omega) (by omega) ?_
          have h146 := h144.nilR
          refine Plan.appendO (X := ([] : List Byte)) (Y := (dl 32 x_141)) h146 0 Ow.nil FKdfExpands.el22 FKdfExpands.sl22 rfl rfl rfl rfl (Bx.arr0 (n := 32) (cc := 32) 1 rfl (by omega) (by omega)) (by omega) (fun _ => EffO.keep PIn.nil) fun a147 pb147 cap147 F147 w147 ho147 h147 => ?_
          simp only [List.cons_append, List.nil_append, List.set_cons_zero, List.set_cons_succ] at h147
          refine Plan.assign_slice rfl rfl ?_
          refine Plan.nil ?_
          refine hK145 _ _ ?_; clear hK145
          refine W.seq_k fun K148 hK148 => ?_
          refine W.regionD FKdfExpands.mixed [(0, true), (1, true), (2, true), (3, true), (4, true), (5, true), (6, true), (7, true), (8, true), (9, true), (10, true), (11, true), (12, true), (13, true), (14, true), (15, true), (16, false), (17, true)] (by kernel_rfl) ?_
          have h149 := h147.drew
          refine Plan.move_slice rfl rfl ?_
          refine Plan.move_int rfl rfl ?_
          obtain ⟨hc150, hR⟩ := hR
          refine Plan.mulN (a := 32) (b := i_124) rfl rfl rfl (by omega) ?_
          refine Plan.move_int rfl rfl ?_
          refine Plan.move_int rfl rfl ?_
          obtain ⟨hc151, hR⟩ := hR
          refine Plan.mulN (a := 32) (b := i_124) rfl rfl rfl (by omega) ?_
          obtain ⟨hc152, hR⟩ := hR
          refine Plan.addN (a := (32 * i_124)) (b := 32) rfl rfl rfl (by omega) ?_
          refine Plan.minI (a := x_21) (b := ((((32 * i_124) + 32) : Nat) : Int)) rfl rfl rfl ?_
          obtain ⟨hc153, hR⟩ := hR
          obtain ⟨hc154, hR⟩ := hR
          have hm155 := hl_121.hc
          refine Plan.slSl (lo := (32 * i_124)) (hi := (min x_21 ((((32 * i_124) + 32) : Nat) : Int)).toNat) FKdfExpands.sl22 rfl rfl ⟨_, rfl⟩ ⟨_, congrArg (Value.int .i64) (Int.toNat_of_nonneg hc153).symm⟩ (by omega) ?_
          refine Plan.move_slice rfl rfl ?_
          refine Plan.move_int rfl rfl ?_
          refine Plan.move_int rfl rfl ?_
          obtain ⟨hc156, hR⟩ := hR
          refine Plan.mulN (a := 32) (b := i_124) rfl rfl rfl (by omega) ?_
          obtain ⟨hc157, hR⟩ := hR
          refine Plan.subI (a := x_21) (b := (((32 * i_124) : Nat) : Int)) rfl rfl rfl (by omega) ?_
          refine Plan.minI (a := 32) (b := (x_21 - (((32 * i_124) : Nat) : Int))) rfl rfl rfl ?_
          obtain ⟨hc158, hR⟩ := hR
          obtain ⟨hc159, hR⟩ := hR
          have hm160 := ho147.hc
          refine Plan.slSl (lo := 0) (hi := (min 32 (x_21 - (((32 * i_124) : Nat) : Int))).toNat) FKdfExpands.sl22 rfl rfl rfl ⟨_, congrArg (Value.int .i64) (Int.toNat_of_nonneg hc158).symm⟩ (by omega) ?_
          obtain ⟨x_162, hr161, hR⟩ := hR
          refine Plan.call (vs := [.slice (if cl_121 = (32 * i_124) then al_121 else (al_121).map (·.add ((32 * i_124) * 1))) ((min x_21 ((((32 * i_124) + 32) : Nat) : Int)).toNat - (32 * i_124)) (cl_121 - (32 * i_124)), .slice (if cap147 = 0 then a147 else (a147).map (·.add (0 * 1))) ((min 32 (x_21 - (((32 * i_124) : Nat) : Int))).toNat - 0) (cap147 - 0)]) rfl FKdfExpands.call41 rfl (lethelaw03_Eq_ok (by exact ((hl_121.bx 4 rfl).seg (lo := (32 * i_124)) (hi := (min x_21 ((((32 * i_124) + 32) : Nat) : Int)).toNat) hc154)) (by exact ((ho147.bx 0 rfl).seg (lo := 0) (hi := (min 32 (x_21 - (((32 * i_124) : Nat) : Int))).toNat) hc159)) hr161 h149) ?_
          rintro _ w163 ⟨rfl, h163⟩
          refine ⟨_, rfl, .inl ⟨PIn.keep PIn.nil h163, ?_⟩⟩
          refine Plan.not rfl rfl ?_
          refine Plan.nil ?_
          refine hK148 _ _ ?_; clear hK148
          by_cases hc164 : x_162 = true
          ·
            replace hR := ifT hR hc164
            refine W.condF (congrArg Value.bool (congrArg Bool.not hc164)) ?_
            refine W.skip ?_
            refine blockR_norm ?_
            refine hK134 _ _ ?_; clear hK134
            refine W.regionT [(0, true), (1, true), (2, true)] (by kernel_rfl) ?_
            refine Plan.move_int rfl rfl ?_
            obtain ⟨hc165, hR⟩ := hR
            refine Plan.addN (a := i_124) (b := 1) rfl rfl rfl (by omega) ?_
            refine Plan.assign_int rfl rfl ?_
            refine Plan.nil ?_
            have h166 := St.pickT (C := [_, _, _, _, _, _]) h163 [4, 0] (by decide)
            simp only [pick, List.filterMap_cons, List.filterMap_nil, List.getElem?_cons_zero, List.getElem?_cons_succ, List.cons_append, List.nil_append] at h166
            exact iterR_norm ⟨_, hR, al_121, pl_121, cl_121, Fl_121, a147, pb147, cap147, F147, (EnvHas.cons rfl (EnvHas.cons rfl (EnvHas.cons rfl (EnvHas.cons rfl (EnvHas.cons rfl (EnvHas.cons rfl (EnvHas.cons rfl EnvHas.nil))))))), h166, hl_121, ho147⟩
          ·
            replace hR := ifF hR hc164
            refine W.condT (congrArg Value.bool (congrArg Bool.not (Bool.eq_false_iff.2 hc164))) ?_
            refine W.seq_k fun K167 hK167 => ?_
            refine W.regionT [(0, true)] (by kernel_rfl) ?_
            refine Plan.assign_bool rfl rfl ?_
            refine Plan.nil ?_
            refine hK167 _ _ ?_; clear hK167
            refine W.ret (blockR_ret (thenR_ret (iterR_ret (blockR_ret (thenR_ret (thenR_ret (finR_ret ?_)))))))
            have h168 := St.pickT (C := [_, _, _, _, _, _]) h163 [] (by decide)
            simp only [pick, List.filterMap_cons, List.filterMap_nil, List.getElem?_cons_zero, List.getElem?_cons_succ, List.cons_append, List.nil_append] at h168
            replace hR := hR.2
            subst r
            refine RetOk.mk (.tmp_bool rfl .nil) ?_
            exact ⟨rfl, h168⟩
        ·
          replace hR := ifF hR hc133
          refine W.condF (congrArg Value.bool (decide_eq_false hc133)) ?_
          refine W.exit (thenR_exit (iterR_exit (blockR_here ?_)))
          have h169 := St.pickT (C := [_, _]) h129 [0] (by decide)
          simp only [pick, List.filterMap_cons, List.filterMap_nil, List.getElem?_cons_zero, List.getElem?_cons_succ, List.cons_append, List.nil_append] at h169
          exact ⟨l_121, (hx126 _ hR).symm, al_121, pl_121, cl_121, Fl_121, (EnvHas.cons rfl (EnvHas.cons rfl (EnvHas.cons rfl (EnvHas.cons rfl (EnvHas.cons rfl EnvHas.nil))))), h169, hl_121⟩
      ·
        rintro ev170 wl170 ⟨y_l_125, hy170, al_125, pl_125, cl_125, Fl_125, he170, h170, hl_125⟩
        obtain ⟨ev170, rfl⟩ := he170.open
        replace hR := hR0126 y_l_125 hy170
        obtain ⟨l_125, e_l_125⟩ : ∃ z, z = y_l_125 := ⟨_, rfl⟩; subst e_l_125
        refine hK47 _ _ ?_; clear hK47
        refine W.seq_k fun K171 hK171 => ?_
        refine W.regionT [(0, true), (1, true), (2, true), (3, false), (4, true)] (by kernel_rfl) ?_
        refine Plan.move_int rfl rfl ?_
        refine Plan.move_int rfl rfl ?_
        obtain ⟨hc172, hR⟩ := hR
        refine Plan.addI (a := x_21) (b := 1) rfl rfl rfl (by omega) ?_
        obtain ⟨x_174, hr173, hR⟩ := hR
        refine Plan.call (vs := [.int .i64 less4, .int .i64 (x_21 + 1)]) rfl FKdfExpands.call34 rfl (lethelaw03_rest_ok  hr173 h170) ?_
        rintro _ w175 ⟨rfl, h175⟩
        refine ⟨_, rfl, .inl ⟨PIn.keep PIn.nil h175, ?_⟩⟩
        refine Plan.assign_int rfl rfl ?_
        refine Plan.nil ?_
        refine hK171 _ _ ?_; clear hK171
        refine W.seq_k fun K176 hK176 => ?_
        refine W.regionT [(0, true), (1, true), (2, true), (3, false), (4, true), (5, true), (6, true), (7, true), (8, true)] (by kernel_rfl) ?_
        refine Plan.move_slice rfl rfl ?_
        refine Plan.move_slice rfl rfl ?_
        refine Plan.move_int rfl rfl ?_
        obtain ⟨x_178, x_179, hr177, hR⟩ := hR
        refine Plan.call (vs := [.slice ay0_9 x_8.length cy0_11, .slice ay0_15 x_14.length cy0_17, .int .i64 x_174]) rfl FKdfExpands.call40 rfl (kdf_Expand_ok (iG0 := iG0 + 1) hG0 (iG1 := iG1 + 1) hG1 (hf12_0.app [_]) (hf18_0.app [_]) hr177 h175) ?_
        rintro _ w185 ⟨ay0_180, py0_181, ny0_182, cy0_183, Fy0_184, rfl, h185, hf185_0⟩
        obtain rfl := hf185_0.hl
        refine ⟨_, rfl, .inl ⟨PIn.keep PIn.nil h185, ?_⟩⟩
        refine Plan.move_tuple rfl rfl ?_
        refine Plan.extract_slice rfl rfl rfl ?_
        refine Plan.extract_int rfl rfl rfl ?_
        refine Plan.assign_slice rfl rfl ?_
        refine Plan.assign_int rfl rfl ?_
        refine Plan.nil ?_
        refine hK176 _ _ ?_; clear hK176
        refine W.seq_k fun K186 hK186 => ?_
        refine W.seq_k fun K198 hK198 => ?_
        refine W.regionT [(0, true), (1, true), (2, true), (3, true), (4, true), (5, true), (6, true), (7, false), (8, true), (9, true)] (by kernel_rfl) ?_
        refine Plan.move_int rfl rfl ?_
        by_cases hc199 : x_179 ≠ 0
        ·
          replace hR := ifT hR hc199
          refine Plan.cmpV (a := (((x_179 : Nat) : Int) : Int)) (b := (0 : Int)) (p := x_179 ≠ 0) (v := true) rfl rfl rfl rfl icmp_neN (decide_eq_true hc199) ?_
          refine Plan.move_bool rfl rfl ?_
          refine Plan.passed rfl ?_
          refine Plan.passed rfl ?_
          refine Plan.passed rfl ?_
          refine Plan.passed rfl ?_
          refine Plan.passed rfl ?_
          refine Plan.passed rfl ?_
          refine Plan.pickTb rfl rfl rfl ?_
          refine Plan.nil ?_
          refine hK198 _ _ ?_; clear hK198
          refine W.condT rfl ?_
          refine W.seq_k fun K200 hK200 => ?_
          refine W.regionT [(0, true)] (by kernel_rfl) ?_
          refine Plan.assign_bool rfl rfl ?_
          refine Plan.nil ?_
          refine hK200 _ _ ?_; clear hK200
          refine W.ret (thenR_ret (finR_ret ?_))
          have h201 := St.pickT (C := [_, _]) h185 [] (by decide)
          simp only [pick, List.filterMap_cons, List.filterMap_nil, List.getElem?_cons_zero, List.getElem?_cons_succ, List.cons_append, List.nil_append] at h201
          subst r
          refine RetOk.mk (.tmp_bool rfl .nil) ?_
          exact ⟨rfl, h201⟩
        ·
          replace hR := ifF hR hc199
          refine Plan.cmpV (a := (((x_179 : Nat) : Int) : Int)) (b := (0 : Int)) (p := x_179 ≠ 0) (v := false) rfl rfl rfl rfl icmp_neN (decide_eq_false hc199) ?_
          refine Plan.move_bool rfl rfl ?_
          refine Plan.move_slice rfl rfl ?_
          refine Plan.move_slice rfl rfl ?_
          refine Plan.move_int rfl rfl ?_
          obtain ⟨hc202, hR⟩ := hR
          obtain ⟨hc203, hR⟩ := hR
          have hm204 := hl_125.hc
          refine Plan.slSl (lo := 0) (hi := x_174.toNat) FKdfExpands.sl22 rfl rfl rfl ⟨_, congrArg (Value.int .i64) (Int.toNat_of_nonneg hc202).symm⟩ (by omega) ?_
          obtain ⟨x_206, hr205, hR⟩ := hR
          refine Plan.call (vs := [.slice ay0_180 x_178.length cy0_183, .slice (if cl_125 = 0 then al_125 else (al_125).map (·.add (0 * 1))) (x_174.toNat - 0) (cl_125 - 0)]) rfl FKdfExpands.call41 rfl (lethelaw03_Eq_ok (by exact (hf185_0.bx 0 rfl)) (by exact ((hl_125.bx 1 rfl).seg (lo := 0) (hi := x_174.toNat) hc203)) hr205 h185) ?_
          rintro _ w207 ⟨rfl, h207⟩
          refine ⟨_, rfl, .inl ⟨PIn.keep PIn.nil h207, ?_⟩⟩
          refine Plan.not rfl rfl ?_
          refine Plan.pickFb rfl rfl rfl ?_
          refine Plan.nil ?_
          refine hK198 _ _ ?_; clear hK198
          by_cases hc208 : x_206 = true
          ·
            replace hR := ifT hR hc208
            refine W.condF (congrArg Value.bool (congrArg Bool.not hc208)) ?_
            refine W.skip ?_
            refine hK186 _ _ ?_; clear hK186
            refine W.seq_k fun K209 hK209 => ?_
            refine W.regionT [(0, true), (1, true), (2, false), (3, false), (4, false)] (by kernel_rfl) ?_
            refine Plan.move_slice rfl rfl ?_
            refine Plan.move_slice rfl rfl ?_
            obtain ⟨x_211, hr210, hR⟩ := hR
            refine Plan.call (vs := [.slice ay0_9 x_8.length cy0_11, .slice ay0_15 x_14.length cy0_17]) rfl FKdfExpands.call37 rfl (kdf_Extract_ok (iG0 := iG0 + 2) hG0 (iG1 := iG1 + 2) hG1 (hf12_0.app [_, _]) (hf18_0.app [_, _]) hr210 h207) ?_
            rintro _ w212 ⟨rfl, h212⟩
            refine ⟨_, rfl, .inl ⟨PIn.keep PIn.nil h212, ?_⟩⟩
            refine Plan.alloc h212 rfl FKdfExpands.z32 PIn.nil fun b213 w213 hb213 h213 => ?_
            simp only [rngs, Nat.zero_add, Nat.reduceAdd, List.cons_append, List.nil_append] at h213
            refine Plan.storeA (f' := fun q => VU .u8 (x_211 q)) h213 0 rfl rfl rfl rfl (fun _ _ => rfl) FKdfExpands.sz32 rfl fun w214 h214 => ?_
            simp only [List.cons_append, List.nil_append, List.set_cons_zero, List.set_cons_succ] at h214
            refine Plan.nil ?_
            refine hK209 _ _ ?_; clear hK209
            refine W.seq_k fun K215 hK215 => ?_
            refine W.regionT [(0, true), (1, true), (2, true), (3, true), (4, false), (5, true), (6, true), (7, true), (8, true), (9, true)] (by kernel_rfl) ?_
            refine Plan.move_slice rfl rfl ?_
            refine Plan.move_slice rfl rfl ?_
            refine Plan.move_slice rfl rfl ?_
            refine Plan.move_int rfl rfl ?_
            obtain ⟨x_217, x_218, hr216, hR⟩ := hR
            refine Plan.call (vs := [.slice ay0_9 x_8.length cy0_11, .slice ay0_15 x_14.length cy0_17, .slice ay0_15 x_14.length cy0_17, .int .i64 x_21]) rfl FKdfExpands.call42 rfl (kdf_Derive_ok (iG0 := iG0 + 3) hG0 (iG1 := iG1 + 3) hG1 (hf12_0.app [_, _, _]) (hf18_0.app [_, _, _]) (hf18_0.app [_, _, _]) hr216 h214) ?_
            rintro _ w224 ⟨ay0_219, py0_220, ny0_221, cy0_222, Fy0_223, rfl, h224, hf224_0⟩
            obtain rfl := hf224_0.hl
            refine ⟨_, rfl, .inl ⟨PIn.keep PIn.nil h224, ?_⟩⟩
            refine Plan.move_tuple rfl rfl ?_
            refine Plan.extract_slice rfl rfl rfl ?_
            refine Plan.extract_int rfl rfl rfl ?_
            refine Plan.assign_slice rfl rfl ?_
            refine Plan.assign_int rfl rfl ?_
            refine Plan.nil ?_
            refine hK215 _ _ ?_; clear hK215
            refine W.seq_k fun K225 hK225 => ?_
            refine W.regionT [(0, true), (1, true), (2, true), (3, false), (4, true), (5, true), (6, true), (7, true), (8, true)] (by kernel_rfl) ?_
            refine Plan.slArrO (lo := 0) (hi := 32) (m := 32) (c := 32) (o' := 0) FKdfExpands.arr32 rfl rfl rfl rfl (by omega) (by omega) (by omega) (by omega) ?_
            refine Plan.move_slice rfl rfl ?_
            refine Plan.move_int rfl rfl ?_
            obtain ⟨x_227, x_228, hr226, hR⟩ := hR
            refine Plan.call (vs := [.slice (some ⟨b213, 0, none⟩) 32 32, .slice ay0_15 x_14.length cy0_17, .int .i64 x_21]) rfl FKdfExpands.call40 rfl (kdf_Expand_ok (iG0 := iG0 + 4) hG0 (iG1 := iG1 + 4) hG1 (by exact (Bx.arr0 (n := 32) (cc := 32) 1 rfl (by omega) (by omega))) (hf18_0.app [_, _, _, _]) hr226 h224) ?_
            rintro _ w234 ⟨ay0_229, py0_230, ny0_231, cy0_232, Fy0_233, rfl, h234, hf234_0⟩
            obtain rfl := hf234_0.hl
            refine ⟨_, rfl, .inl ⟨PIn.keep PIn.nil h234, ?_⟩⟩
            refine Plan.move_tuple rfl rfl ?_
            refine Plan.extract_slice rfl rfl rfl ?_
            refine Plan.extract_int rfl rfl rfl ?_
            refine Plan.assign_slice rfl rfl ?_
            refine Plan.assign_int rfl rfl ?_
            refine Plan.nil ?_
            refine hK225 _ _ ?_; clear hK225
            refine W.seq_k fun K235 hK235 => ?_
            refine W.regionT [(0, true), (1, true), (2, true), (3, true), (4, true), (5, true), (6, true), (7, true), (8, true), (9, false), (10, true), (11, true)] (by kernel_rfl) ?_
            refine Plan.move_int rfl rfl ?_
            by_cases hc236 : x_218 = 0
            ·
              replace hR := ifT hR hc236
              refine Plan.cmpV (a := (((x_218 : Nat) : Int) : Int)) (b := (0 : Int)) (p := x_218 = 0) (v := true) rfl rfl rfl rfl icmp_eqN (decide_eq_true hc236) ?_
              refine Plan.move_bool rfl rfl ?_
              refine Plan.move_int rfl rfl ?_
              by_cases hc237 : x_228 = 0
              ·
                replace hR := ifT hR hc237
                refine Plan.cmpV (a := (((x_228 : Nat) : Int) : Int)) (b := (0 : Int)) (p := x_228 = 0) (v := true) rfl rfl rfl rfl icmp_eqN (decide_eq_true hc237) ?_
                refine Plan.pickTb rfl rfl rfl ?_
                refine Plan.move_bool rfl rfl ?_
                refine Plan.move_slice rfl rfl ?_
                refine Plan.move_slice rfl rfl ?_
                obtain ⟨x_239, hr238, hR⟩ := hR
                refine Plan.call (vs := [.slice ay0_219 x_217.length cy0_222, .slice ay0_229 x_227.length cy0_232]) rfl FKdfExpands.call41 rfl (lethelaw03_Eq_ok (by exact (hf224_0.bx 1 rfl)) (by exact (hf234_0.bx 0 rfl)) hr238 h234) ?_
                rintro _ w240 ⟨rfl, h240⟩
                refine ⟨_, rfl, .inl ⟨PIn.keep PIn.nil h240, ?_⟩⟩
                refine Plan.pickTb rfl rfl rfl ?_
                refine Plan.assign_bool rfl rfl ?_
                refine Plan.nil ?_
                refine hK235 _ _ ?_; clear hK235
                refine W.ret (finR_ret ?_)
                have h241 := St.pickT (C := [_, _, _, _, _]) h240 [] (by decide)
                simp only [pick, List.filterMap_cons, List.filterMap_nil, List.getElem?_cons_zero, List.getElem?_cons_succ, List.cons_append, List.nil_append] at h241
                subst r
                refine RetOk.mk (.tmp_bool rfl .nil) ?_
                exact ⟨rfl, h241⟩
              ·
                replace hR := ifF hR hc237
                refine Plan.cmpV (a := (((x_228 : Nat) : Int) : Int)) (b := (0 : Int)) (p := x_228 = 0) (v := false) rfl rfl rfl rfl icmp_eqN (decide_eq_false hc237) ?_
                refine Plan.pickTb rfl rfl rfl ?_
                refine Plan.move_bool rfl rfl ?_
                refine Plan.passed rfl ?_
                refine Plan.passed rfl ?_
                refine Plan.passed rfl ?_
                refine Plan.pickFb rfl rfl rfl ?_
                refine Plan.assign_bool rfl rfl ?_
                refine Plan.nil ?_
                refine hK235 _ _ ?_; clear hK235
                refine W.ret (finR_ret ?_)
                have h242 := St.pickT (C := [_, _, _, _, _]) h234 [] (by decide)
                simp only [pick, List.filterMap_cons, List.filterMap_nil, List.getElem?_cons_zero, List.getElem?_cons_succ, List.cons_append, List.nil_append] at h242
                subst r
                refine RetOk.mk (.tmp_bool rfl .nil) ?_
                exact ⟨rfl, h242⟩
            ·
              replace hR := ifF hR hc236
              refine Plan.cmpV (a := (((x_218 : Nat) : Int) : Int)) (b := (0 : Int)) (p := x_218 = 0) (v := false) rfl rfl rfl rfl icmp_eqN (decide_eq_false hc236) ?_
              refine Plan.move_bool rfl rfl ?_
              refine Plan.passed rfl ?_
              refine Plan.passed rfl ?_
              refine Plan.pickFb rfl rfl rfl ?_
              refine Plan.move_bool rfl rfl ?_
              refine Plan.passed rfl ?_
              refine Plan.passed rfl ?_
              refine Plan.passed rfl ?_
              refine Plan.pickFb rfl rfl rfl ?_
              refine Plan.assign_bool rfl rfl ?_
              refine Plan.nil ?_
              refine hK235 _ _ ?_; clear hK235
              refine W.ret (finR_ret ?_)
              have h243 := St.pickT (C := [_, _, _, _, _]) h234 [] (by decide)
              simp only [pick, List.filterMap_cons, List.filterMap_nil, List.getElem?_cons_zero, List.getElem?_cons_succ, List.cons_append, List.nil_append] at h243
              subst r
              refine RetOk.mk (.tmp_bool rfl .nil) ?_
              exact ⟨rfl, h243⟩
          ·
            replace hR := ifF hR hc208
            refine W.condT (congrArg Value.bool (congrArg Bool.not (Bool.eq_false_iff.2 hc208))) ?_
            refine W.seq_k fun K244 hK244 => ?_
            refine W.regionT [(0, true)] (by kernel_rfl) ?_
            refine Plan.assign_bool rfl rfl ?_
            refine Plan.nil ?_
            refine hK244 _ _ ?_; clear hK244
            refine W.ret (thenR_ret (finR_ret ?_))
            have h245 := St.pickT (C := [_, _]) h207 [] (by decide)
            simp only [pick, List.filterMap_cons, List.filterMap_nil, List.getElem?_cons_zero, List.getElem?_cons_succ, List.cons_append, List.nil_append] at h245
            subst r
            refine RetOk.mk (.tmp_bool rfl .nil) ?_
            exact ⟨rfl, h245⟩

end Go.Proofs.YtjdgbahjpdopbaaDoor
