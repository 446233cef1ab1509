/-
  WALKS of the package's functions, printed by this session's own program (auto.py).
-/
import Derived.Test.YtjdgbahjpdopbaaDoorProg
import Derived.Test.YtjdgbahjpdopbaaDoorLx9
import Derived.Test.YtjdgbahjpdopbaaDoorRKdfBounds
import Derived.Test.YtjdgbahjpdopbaaDoorEls
import Derived.Test.YtjdgbahjpdopbaaDoorWKdf
import Derived.Test.YtjdgbahjpdopbaaDoorWLaw03
namespace Go.Proofs.YtjdgbahjpdopbaaDoor
set_option linter.unusedSimpArgs false
set_option linter.unusedVariables false
set_option linter.unusedSectionVars false
open Go Go.LW
theorem FKdfBounds.slu22 : Tryd.prog.underlying 22 = some (.slice 5) := by kernel_rfl
theorem FKdfBounds.sz5 : szT Tryd.prog 5 1 = true := by kernel_rfl
theorem FKdfBounds.zv5 : (Tryd.prog.info? 5).bind (·.zero) = some (VU .u8 0#8) := by kernel_rfl
theorem FKdfBounds.zv22 : (Tryd.prog.info? 22).bind (·.zero) = some (.slice none 0 0) := by kernel_rfl
theorem FKdfBounds.slu75 : Tryd.prog.underlying 75 = some (.slice 22) := by kernel_rfl
theorem FKdfBounds.sz22 : szT Tryd.prog 22 1 = true := by kernel_rfl
theorem FKdfBounds.z32 : zeroIs Tryd.prog 32 [(32, fun _ => VU .u8 0#8)] := zeroIs_agg (by kernel_rfl)
theorem FKdfBounds.isl22 : ∃ el, Tryd.prog.underlying 22 = some (.slice el) := ⟨5, by kernel_rfl⟩
theorem FKdfBounds.mixed : Tryd.prog.follows .mixedOrders = true := by kernel_rfl
theorem FKdfBounds.sl22 : slB Tryd.prog 22 1 = true := by kernel_rfl
theorem FKdfBounds.arr32 : arrB Tryd.prog 32 32 1 = true := by kernel_rfl
theorem FKdfBounds.sz32 : szT Tryd.prog 32 32 = true := by kernel_rfl
theorem FKdfBounds.call36 : callB Tryd.prog 36 = true := by kernel_rfl
theorem FKdfBounds.call33 : callB Tryd.prog 33 = true := by kernel_rfl
theorem FKdfBounds.call40 : callB Tryd.prog 40 = true := by kernel_rfl
theorem FKdfBounds.call41 : callB Tryd.prog 41 = true := by kernel_rfl
theorem FKdfBounds.call42 : callB Tryd.prog 42 = true := by kernel_rfl
theorem FKdfBounds.call45 : callB Tryd.prog 45 = true := by kernel_rfl
theorem FKdfBounds.isl62 : ∃ el, Tryd.prog.underlying 62 = some (.slice el) := ⟨61, by kernel_rfl⟩

set_option maxRecDepth 8000 in
set_option maxHeartbeats 1000000 in
theorem lethelaw03_KdfBounds_ok {B : Nat} {w0 w : World} {L : List Rg} {iG0 : Nat} (hG0 : L[iG0]? = some ⟨some 0, 0, 64, fun q => VU .u32 (K256 q), false⟩) {iG1 : Nat} (hG1 : L[iG1]? = some ⟨some 1, 0, 8, fun q => VU .u32 (H256 q), false⟩) {prk1 : List Byte} {aprk1 : Option Addr} {nprk1 cprk1 iprk1 : Nat} (hprk1 : Bx L iprk1 aprk1 nprk1 cprk1 prk1) {n_2 : Int} {r : Bool} (hR : lethelaw03_KdfBounds prk1 n_2 r) (HST : St B w0 (L) w) :
    Calls Tryd.prog 13 #[.slice aprk1 nprk1 cprk1, .int .i64 n_2] w fun e w' => e = .returned (.bool r) ∧ St B w0 (L) w' := by
  refine W.enter 171 Tryd.func13 rfl rfl rfl ?_
  unfold lethelaw03_KdfBounds at hR
  have eprk1 := hprk1.hl; subst eprk1
  refine W.seq_k fun K3 hK3 => ?_
  refine W.regionT [(0, true)] (by kernel_rfl) ?_
  refine Plan.assign_bool rfl rfl ?_
  refine Plan.nil ?_
  refine hK3 _ _ ?_; clear hK3
  refine W.seq_k fun K4 hK4 => ?_
  refine W.regionT [(0, true), (1, false), (2, true)] (by kernel_rfl) ?_
  refine Plan.move_slice rfl rfl ?_
  obtain ⟨x_6, hr5, hR⟩ := hR
  refine Plan.call (vs := [.slice aprk1 prk1.length cprk1]) rfl FKdfBounds.call33 rfl (lethelaw03_short_ok hprk1 hr5 HST) ?_
  rintro _ w10 ⟨ay0_7, ny0_8, cy0_9, rfl, h10, hf10_0⟩
  obtain rfl := hf10_0.hl
  refine ⟨_, rfl, .inl ⟨PIn.keep PIn.nil h10, ?_⟩⟩
  refine Plan.assign_slice rfl rfl ?_
  refine Plan.nil ?_
  refine hK4 _ _ ?_; clear hK4
  refine W.seq_k fun K11 hK11 => ?_
  refine W.regionT [(0, true), (1, false), (2, true), (3, true), (4, true), (5, true), (6, true)] (by kernel_rfl) ?_
  refine Plan.move_slice rfl rfl ?_
  obtain ⟨x_13, x_14, hr12, hR⟩ := hR
  refine Plan.call (vs := [.slice ay0_7 x_6.length cy0_9, .slice none 0 0, VN 8160]) rfl FKdfBounds.call40 rfl (kdf_Expand_ok (iG0 := iG0 + 0) hG0 (iG1 := iG1 + 0) hG1 hf10_0 (by exact (Bx.nil 0)) hr12 h10) ?_
  rintro _ w20 ⟨ay0_15, py0_16, ny0_17, cy0_18, Fy0_19, rfl, h20, hf20_0⟩
  try dsimp only at hf20_0
  obtain rfl := hf20_0.hl
  refine ⟨_, rfl, .inl ⟨PIn.keep PIn.nil h20, ?_⟩⟩
  refine Plan.move_tuple rfl rfl ?_
  refine Plan.extract_slice rfl rfl rfl ?_
  refine Plan.extract_int rfl rfl rfl ?_
  refine Plan.assign_slice rfl rfl ?_
  refine Plan.assign_int rfl rfl ?_
  refine Plan.nil ?_
  refine hK11 _ _ ?_; clear hK11
  refine W.seq_k fun K21 hK21 => ?_
  refine W.seq_k fun K27 hK27 => ?_
  refine W.regionT [(0, true), (1, true), (2, true), (3, true), (4, true), (5, true), (6, true)] (by kernel_rfl) ?_
  refine Plan.move_int rfl rfl ?_
  by_cases hc28 : x_14 ≠ 0
  ·
    replace hR := ifT hR hc28
    refine Plan.cmpV (a := (((x_14 : Nat) : Int) : Int)) (b := (0 : Int)) (p := x_14 ≠ 0) (v := true) rfl rfl rfl rfl icmp_neN (decide_eq_true hc28) ?_
    refine Plan.move_bool rfl rfl ?_
    refine Plan.passed rfl ?_
    refine Plan.passed rfl ?_
    refine Plan.passed rfl ?_
    refine Plan.pickTb rfl rfl rfl ?_
    refine Plan.nil ?_
    refine hK27 _ _ ?_; clear hK27
    refine W.condT rfl ?_
    refine W.seq_k fun K29 hK29 => ?_
    refine W.regionT [(0, true)] (by kernel_rfl) ?_
    refine Plan.assign_bool rfl rfl ?_
    refine Plan.nil ?_
    refine hK29 _ _ ?_; clear hK29
    refine W.ret (thenR_ret (finR_ret ?_))
    have h30 := St.pickT (C := [_]) h20 [] (by decide)
    simp only [pick, List.filterMap_cons, List.filterMap_nil, List.getElem?_cons_zero, List.getElem?_cons_succ, List.cons_append, List.nil_append] at h30
    subst r
    refine RetOk.mk (.tmp_bool rfl .nil) ?_
    exact ⟨rfl, h30⟩
  ·
    replace hR := ifF hR hc28
    refine Plan.cmpV (a := (((x_14 : Nat) : Int) : Int)) (b := (0 : Int)) (p := x_14 ≠ 0) (v := false) rfl rfl rfl rfl icmp_neN (decide_eq_false hc28) ?_
    refine Plan.move_bool rfl rfl ?_
    refine Plan.move_slice rfl rfl ?_
    refine Plan.len FKdfBounds.isl22 rfl rfl ?_
    refine Plan.cmpP (a := (((x_13.length : Nat) : Int) : Int)) (b := (8160 : Int)) (p := x_13.length ≠ 8160) rfl rfl rfl rfl icmp_neN ?_
    refine Plan.pickFb rfl rfl rfl ?_
    refine Plan.nil ?_
    refine hK27 _ _ ?_; clear hK27
    by_cases hc31 : x_13.length ≠ 8160
    ·
      replace hR := ifT hR hc31
      refine W.condT (congrArg Value.bool (decide_eq_true hc31)) ?_
      refine W.seq_k fun K32 hK32 => ?_
      refine W.regionT [(0, true)] (by kernel_rfl) ?_
      refine Plan.assign_bool rfl rfl ?_
      refine Plan.nil ?_
      refine hK32 _ _ ?_; clear hK32
      refine W.ret (thenR_ret (finR_ret ?_))
      have h33 := St.pickT (C := [_]) h20 [] (by decide)
      simp only [pick, List.filterMap_cons, List.filterMap_nil, List.getElem?_cons_zero, List.getElem?_cons_succ, List.cons_append, List.nil_append] at h33
      subst r
      refine RetOk.mk (.tmp_bool rfl .nil) ?_
      exact ⟨rfl, h33⟩
    ·
      replace hR := ifF hR hc31
      refine W.condF (congrArg Value.bool (decide_eq_false hc31)) ?_
      refine W.skip ?_
      refine hK21 _ _ ?_; clear hK21
      refine W.seq_k fun K34 hK34 => ?_
      refine W.regionT [(0, true), (1, true), (2, true), (3, false), (4, false), (5, false), (6, false), (7, false)] (by kernel_rfl) ?_
      refine Plan.move_slice rfl rfl ?_
      refine Plan.move_slice rfl rfl ?_
      obtain ⟨hc35, hR⟩ := hR
      have hm36 := hf20_0.hc
      refine Plan.slSl (lo := 8096) (hi := 8128) FKdfBounds.sl22 rfl rfl ⟨_, rfl⟩ ⟨_, rfl⟩ (by omega) ?_
      refine Plan.buildSlice h20 (ps := [(1, fun q => VU .u8 (lit ([255#8] : List Byte) q))]) FKdfBounds.slu22 FKdfBounds.sz5 FKdfBounds.zv5 (by decide) (by decide) rfl rfl (by kernel_rfl) (EffO.keep PIn.nil) fun b37 w37 hb37 h37 => ?_
      simp only [rngs, List.cons_append, List.nil_append] at h37
      have ho37 : Ow (some ⟨b37, 0, none⟩) (some b37) ([255#8] : List Byte).length 1 (lit ([255#8] : List Byte)) ([255#8] : List Byte) := ⟨.inr ⟨b37, rfl, rfl⟩, Nat.le_refl _, rfl, fun q _ => rfl⟩
      refine Plan.buildSlice h37 (ps := [(2, fun i => .slice ((fun i => ([(if cy0_18 = 8096 then ay0_15 else (ay0_15).map (·.add (8096 * 1))), some ⟨b37, 0, none⟩] : List (Option Addr)).getD i none) i) ((fun i => ([(8128 - 8096), ([255#8] : List Byte).length] : List Nat).getD i 0) i) ((fun i => ([(cy0_18 - 8096), 1] : List Nat).getD i 0) i))]) FKdfBounds.slu75 FKdfBounds.sz22 FKdfBounds.zv22 (by decide) (by decide) rfl rfl rfl (EffO.keep PIn.nil) fun b39 w39 hb39 h39 => ?_
      simp only [rngs, List.cons_append, List.nil_append] at h39
      obtain ⟨x_41, hr40, hR⟩ := hR
      refine Plan.call (vs := [.slice ay0_7 x_6.length cy0_9, .slice (some ⟨b39, 0, none⟩) 2 2]) rfl FKdfBounds.call36 rfl (kdf_Mac_ok (iG0 := iG0 + 3) hG0 (iG1 := iG1 + 3) hG1 (hf10_0.app [_, _, _]) (by exact (Bss.of 0 rfl rfl (fun i hi => match i, hi with | 0, _ => ⟨_, ((hf20_0.bx 2 rfl).seg (lo := 8096) (hi := 8128) hc35)⟩ | 1, _ => ⟨_, (ho37.bx 1 rfl)⟩ | k + 2, hk => absurd hk (by omega)))) hr40 h39) ?_
      rintro _ w42 ⟨rfl, h42⟩
      refine ⟨_, rfl, .inl ⟨PIn.keep PIn.nil h42, ?_⟩⟩
      refine Plan.alloc h42 rfl FKdfBounds.z32 PIn.nil fun b43 w43 hb43 h43 => ?_
      simp only [rngs, Nat.zero_add, Nat.reduceAdd, List.cons_append, List.nil_append] at h43
      refine Plan.storeA (f' := fun q => VU .u8 (x_41 q)) h43 0 rfl rfl rfl rfl (fun _ _ => rfl) FKdfBounds.sz32 rfl fun w44 h44 => ?_
      simp only [List.cons_append, List.nil_append, List.set_cons_zero, List.set_cons_succ] at h44
      refine Plan.nil ?_
      refine hK34 _ _ ?_; clear hK34
      refine W.seq_k fun K45 hK45 => ?_
      refine W.seq_k fun K46 hK46 => ?_
      refine W.regionD FKdfBounds.mixed [(0, true), (1, true), (2, true), (3, false), (4, true)] (by kernel_rfl) ?_
      have h47 := h44.drew
      refine Plan.move_slice rfl rfl ?_
      obtain ⟨hc48, hR⟩ := hR
      have hm49 := hf20_0.hc
      refine Plan.slSl (lo := 8128) (hi := x_13.length) FKdfBounds.sl22 rfl rfl ⟨_, rfl⟩ rfl (by omega) ?_
      refine Plan.slArrO (lo := 0) (hi := 32) (m := 32) (c := 32) (o' := 0) FKdfBounds.arr32 rfl rfl rfl rfl (by omega) (by omega) (by omega) (by omega) ?_
      obtain ⟨x_51, hr50, hR⟩ := hR
      refine Plan.call (vs := [.slice (if cy0_18 = 8128 then ay0_15 else (ay0_15).map (·.add (8128 * 1))) (x_13.length - 8128) (cy0_18 - 8128), .slice (some ⟨b43, 0, none⟩) 32 32]) rfl FKdfBounds.call41 rfl (lethelaw03_Eq_ok (by exact ((hf20_0.bx 3 rfl).seg (lo := 8128) (hi := x_13.length) hc48)) (by exact (Bx.arr0 (n := 32) (cc := 32) 0 rfl (by omega) (by omega))) hr50 h47) ?_
      rintro _ w52 ⟨rfl, h52⟩
      refine ⟨_, rfl, .inl ⟨PIn.keep PIn.nil h52, ?_⟩⟩
      refine Plan.not rfl rfl ?_
      refine Plan.nil ?_
      refine hK46 _ _ ?_; clear hK46
      by_cases hc53 : x_51 = true
      ·
        replace hR := ifT hR hc53
        refine W.condF (congrArg Value.bool (congrArg Bool.not hc53)) ?_
        refine W.skip ?_
        refine hK45 _ _ ?_; clear hK45
        refine W.seq_k fun K54 hK54 => ?_
        refine W.regionT [(0, true), (1, true), (2, false), (3, true), (4, true), (5, true), (6, true), (7, true)] (by kernel_rfl) ?_
        refine Plan.move_slice rfl rfl ?_
        refine Plan.move_int rfl rfl ?_
        obtain ⟨x_56, x_57, hr55, hR⟩ := hR
        refine Plan.call (vs := [.slice ay0_7 x_6.length cy0_9, .slice none 0 0, .int .i64 n_2]) rfl FKdfBounds.call40 rfl (kdf_Expand_ok (iG0 := iG0 + 4) hG0 (iG1 := iG1 + 4) hG1 (hf10_0.app [_, _, _, _]) (by exact (Bx.nil 0)) hr55 h52) ?_
        rintro _ w63 ⟨ay0_58, py0_59, ny0_60, cy0_61, Fy0_62, rfl, h63, hf63_0⟩
        try dsimp only at hf63_0
        obtain rfl := hf63_0.hl
        refine ⟨_, rfl, .inl ⟨PIn.keep PIn.nil h63, ?_⟩⟩
        refine Plan.move_tuple rfl rfl ?_
        refine Plan.extract_slice rfl rfl rfl ?_
        refine Plan.extract_int rfl rfl rfl ?_
        refine Plan.assign_slice rfl rfl ?_
        refine Plan.assign_int rfl rfl ?_
        refine Plan.nil ?_
        refine hK54 _ _ ?_; clear hK54
        refine W.seq_k fun K64 hK64 => ?_
        refine W.regionT [(0, true), (1, true), (2, false), (3, true), (4, true), (5, true), (6, true), (7, true)] (by kernel_rfl) ?_
        refine Plan.move_slice rfl rfl ?_
        refine Plan.move_int rfl rfl ?_
        obtain ⟨x_66, x_67, hr65, hR⟩ := hR
        refine Plan.call (vs := [.slice ay0_7 x_6.length cy0_9, .slice none 0 0, .slice none 0 0, .int .i64 n_2]) rfl FKdfBounds.call45 rfl (kdf_Keys_ok (iG0 := iG0 + 5) hG0 (iG1 := iG1 + 5) hG1 (hf10_0.app [_, _, _, _, _]) (by exact (Bx.nil 0)) (by exact (Bx.nil 0)) hr65 h63) ?_
        rintro _ w73 ⟨ay0_68, py0_69, ny0_70, cy0_71, Fy0_72, rfl, h73, hf73_0⟩
        try dsimp only at hf73_0
        obtain rfl := hf73_0.hl
        refine ⟨_, rfl, .inl ⟨PIn.keep PIn.nil h73, ?_⟩⟩
        refine Plan.move_tuple rfl rfl ?_
        refine Plan.extract_slice rfl rfl rfl ?_
        refine Plan.extract_int rfl rfl rfl ?_
        refine Plan.assign_slice rfl rfl ?_
        refine Plan.assign_int rfl rfl ?_
        refine Plan.nil ?_
        refine hK64 _ _ ?_; clear hK64
        refine W.seq_k fun K74 hK74 => ?_
        refine W.regionT [(0, true), (1, true), (2, false), (3, true), (4, true), (5, true), (6, true), (7, true)] (by kernel_rfl) ?_
        refine Plan.move_slice rfl rfl ?_
        refine Plan.move_int rfl rfl ?_
        obtain ⟨x_76, x_77, hr75, hR⟩ := hR
        refine Plan.call (vs := [.slice ay0_7 x_6.length cy0_9, .slice none 0 0, .slice none 0 0, .int .i64 n_2]) rfl FKdfBounds.call42 rfl (kdf_Derive_ok (iG0 := iG0 + 6) hG0 (iG1 := iG1 + 6) hG1 (hf10_0.app [_, _, _, _, _, _]) (by exact (Bx.nil 0)) (by exact (Bx.nil 0)) hr75 h73) ?_
        rintro _ w83 ⟨ay0_78, py0_79, ny0_80, cy0_81, Fy0_82, rfl, h83, hf83_0⟩
        try dsimp only at hf83_0
        obtain rfl := hf83_0.hl
        refine ⟨_, rfl, .inl ⟨PIn.keep PIn.nil h83, ?_⟩⟩
        refine Plan.move_tuple rfl rfl ?_
        refine Plan.extract_slice rfl rfl rfl ?_
        refine Plan.extract_int rfl rfl rfl ?_
        refine Plan.assign_slice rfl rfl ?_
        refine Plan.assign_int rfl rfl ?_
        refine Plan.nil ?_
        refine hK74 _ _ ?_; clear hK74
        refine W.seq_k fun K84 hK84 => ?_
        refine W.block ?_
        refine W.seq_k fun K85 hK85 => ?_
        refine W.regionT [(0, true), (1, true), (2, true)] (by kernel_rfl) ?_
        refine Plan.move_int rfl rfl ?_
        refine Plan.cmpP (a := (n_2 : Int)) (b := (0 : Int)) (p := n_2 < 0) rfl rfl rfl rfl icmp_lt ?_
        refine Plan.assign_bool rfl rfl ?_
        refine Plan.nil ?_
        refine hK85 _ _ ?_; clear hK85
        by_cases hc86 : n_2 < 0
        ·
          replace hR := ifT hR hc86
          refine W.condT (congrArg Value.bool (decide_eq_true hc86)) ?_
          refine W.seq_k fun K87 hK87 => ?_
          refine W.regionT [(0, true), (1, true), (2, true), (3, true), (4, true), (5, true), (6, true), (7, true), (8, true), (9, true), (10, true), (11, true), (12, true), (13, true), (14, true), (15, true), (16, true), (17, true), (18, true), (19, true), (20, true), (21, true), (22, true), (23, true), (24, true), (25, true)] (by kernel_rfl) ?_
          refine Plan.move_int rfl rfl ?_
          by_cases hc88 : x_57 = 4
          ·
            replace hR := ifT hR hc88
            refine Plan.cmpV (a := (((x_57 : Nat) : Int) : Int)) (b := (4 : Int)) (p := x_57 = 4) (v := true) rfl rfl rfl rfl icmp_eqN (decide_eq_true hc88) ?_
            refine Plan.move_bool rfl rfl ?_
            refine Plan.move_int rfl rfl ?_
            by_cases hc89 : x_67 = 4
            ·
              replace hR := ifT hR hc89
              refine Plan.cmpV (a := (((x_67 : Nat) : Int) : Int)) (b := (4 : Int)) (p := x_67 = 4) (v := true) rfl rfl rfl rfl icmp_eqN (decide_eq_true hc89) ?_
              refine Plan.pickTb rfl rfl rfl ?_
              refine Plan.move_bool rfl rfl ?_
              refine Plan.move_int rfl rfl ?_
              by_cases hc90 : x_77 = 4
              ·
                replace hR := ifT hR hc90
                refine Plan.cmpV (a := (((x_77 : Nat) : Int) : Int)) (b := (4 : Int)) (p := x_77 = 4) (v := true) rfl rfl rfl rfl icmp_eqN (decide_eq_true hc90) ?_
                refine Plan.pickTb rfl rfl rfl ?_
                refine Plan.move_bool rfl rfl ?_
                refine Plan.move_slice rfl rfl ?_
                refine Plan.len FKdfBounds.isl22 rfl rfl ?_
                by_cases hc91 : x_56.length = 0
                ·
                  replace hR := ifT hR hc91
                  refine Plan.cmpV (a := (((x_56.length : Nat) : Int) : Int)) (b := (0 : Int)) (p := x_56.length = 0) (v := true) rfl rfl rfl rfl icmp_eqN (decide_eq_true hc91) ?_
                  refine Plan.pickTb rfl rfl rfl ?_
                  refine Plan.move_bool rfl rfl ?_
                  refine Plan.move_slice rfl rfl ?_
                  refine Plan.len FKdfBounds.isl62 rfl rfl ?_
                  by_cases hc92 : x_66.length = 0
                  ·
                    replace hR := ifT hR hc92
                    refine Plan.cmpV (a := (((x_66.length : Nat) : Int) : Int)) (b := (0 : Int)) (p := x_66.length = 0) (v := true) rfl rfl rfl rfl icmp_eqN (decide_eq_true hc92) ?_
                    refine Plan.pickTb rfl rfl rfl ?_
                    refine Plan.move_bool rfl rfl ?_
                    refine Plan.move_slice rfl rfl ?_
                    refine Plan.len FKdfBounds.isl22 rfl rfl ?_
                    refine Plan.cmpP (a := (((x_76.length : Nat) : Int) : Int)) (b := (0 : Int)) (p := x_76.length = 0) rfl rfl rfl rfl icmp_eqN ?_
                    refine Plan.pickTb rfl rfl rfl ?_
                    refine Plan.assign_bool rfl rfl ?_
                    refine Plan.nil ?_
                    refine hK87 _ _ ?_; clear hK87
                    refine W.ret (blockR_ret (thenR_ret (finR_ret ?_)))
                    have h93 := St.pickT (C := [_, _, _, _, _, _, _]) h83 [] (by decide)
                    simp only [pick, List.filterMap_cons, List.filterMap_nil, List.getElem?_cons_zero, List.getElem?_cons_succ, List.cons_append, List.nil_append] at h93
                    subst r
                    refine RetOk.mk (.tmp_bool rfl .nil) ?_
                    exact ⟨rfl, h93⟩
                  ·
                    replace hR := ifF hR hc92
                    refine Plan.cmpV (a := (((x_66.length : Nat) : Int) : Int)) (b := (0 : Int)) (p := x_66.length = 0) (v := false) rfl rfl rfl rfl icmp_eqN (decide_eq_false hc92) ?_
                    refine Plan.pickTb rfl rfl rfl ?_
                    refine Plan.move_bool rfl rfl ?_
                    refine Plan.passed rfl ?_
                    refine Plan.passed rfl ?_
                    refine Plan.passed rfl ?_
                    refine Plan.pickFb rfl rfl rfl ?_
                    refine Plan.assign_bool rfl rfl ?_
                    refine Plan.nil ?_
                    refine hK87 _ _ ?_; clear hK87
                    refine W.ret (blockR_ret (thenR_ret (finR_ret ?_)))
                    have h94 := St.pickT (C := [_, _, _, _, _, _, _]) h83 [] (by decide)
                    simp only [pick, List.filterMap_cons, List.filterMap_nil, List.getElem?_cons_zero, List.getElem?_cons_succ, List.cons_append, List.nil_append] at h94
                    subst r
                    refine RetOk.mk (.tmp_bool rfl .nil) ?_
                    exact ⟨rfl, h94⟩
                ·
                  replace hR := ifF hR hc91
                  refine Plan.cmpV (a := (((x_56.length : Nat) : Int) : Int)) (b := (0 : Int)) (p := x_56.length = 0) (v := false) rfl rfl rfl rfl icmp_eqN (decide_eq_false hc91) ?_
                  refine Plan.pickTb rfl rfl rfl ?_
                  refine Plan.move_bool rfl rfl ?_
                  refine Plan.passed rfl ?_
                  refine Plan.passed rfl ?_
                  refine Plan.passed rfl ?_
                  refine Plan.pickFb rfl rfl rfl ?_
                  refine Plan.move_bool rfl rfl ?_
                  refine Plan.passed rfl ?_
                  refine Plan.passed rfl ?_
                  refine Plan.passed rfl ?_
                  refine Plan.pickFb rfl rfl rfl ?_
                  refine Plan.assign_bool rfl rfl ?_
                  refine Plan.nil ?_
                  refine hK87 _ _ ?_; clear hK87
                  refine W.ret (blockR_ret (thenR_ret (finR_ret ?_)))
                  have h95 := St.pickT (C := [_, _, _, _, _, _, _]) h83 [] (by decide)
                  simp only [pick, List.filterMap_cons, List.filterMap_nil, List.getElem?_cons_zero, List.getElem?_cons_succ, List.cons_append, List.nil_append] at h95
                  subst r
                  refine RetOk.mk (.tmp_bool rfl .nil) ?_
                  exact ⟨rfl, h95⟩
              ·
                replace hR := ifF hR hc90
                refine Plan.cmpV (a := (((x_77 : Nat) : Int) : Int)) (b := (4 : Int)) (p := x_77 = 4) (v := false) rfl rfl rfl rfl icmp_eqN (decide_eq_false hc90) ?_
                refine Plan.pickTb rfl rfl rfl ?_
                refine Plan.move_bool rfl rfl ?_
                refine Plan.passed rfl ?_
                refine Plan.passed rfl ?_
                refine Plan.passed rfl ?_
                refine Plan.pickFb rfl rfl rfl ?_
                refine Plan.move_bool rfl rfl ?_
                refine Plan.passed rfl ?_
                refine Plan.passed rfl ?_
                refine Plan.passed rfl ?_
                refine Plan.pickFb rfl rfl rfl ?_
                refine Plan.move_bool rfl rfl ?_
                refine Plan.passed rfl ?_
                refine Plan.passed rfl ?_
                refine Plan.passed rfl ?_
                refine Plan.pickFb rfl rfl rfl ?_
                refine Plan.assign_bool rfl rfl ?_
                refine Plan.nil ?_
                refine hK87 _ _ ?_; clear hK87
                refine W.ret (blockR_ret (thenR_ret (finR_ret ?_)))
                have h96 := St.pickT (C := [_, _, _, _, _, _, _]) h83 [] (by decide)
                simp only [pick, List.filterMap_cons, List.filterMap_nil, List.getElem?_cons_zero, List.getElem?_cons_succ, List.cons_append, List.nil_append] at h96
                subst r
                refine RetOk.mk (.tmp_bool rfl .nil) ?_
                exact ⟨rfl, h96⟩
            ·
              replace hR := ifF hR hc89
              refine Plan.cmpV (a := (((x_67 : Nat) : Int) : Int)) (b := (4 : Int)) (p := x_67 = 4) (v := false) rfl rfl rfl rfl icmp_eqN (decide_eq_false hc89) ?_
              refine Plan.pickTb rfl rfl rfl ?_
              refine Plan.move_bool rfl rfl ?_
              refine Plan.passed rfl ?_
              refine Plan.passed rfl ?_
              refine Plan.pickFb rfl rfl rfl ?_
              refine Plan.move_bool rfl rfl ?_
              refine Plan.passed rfl ?_
              refine Plan.passed rfl ?_
              refine Plan.passed rfl ?_
              refine Plan.pickFb rfl rfl rfl ?_
              refine Plan.move_bool rfl rfl ?_
              refine Plan.passed rfl ?_
              refine Plan.passed rfl ?_
              refine Plan.passed rfl ?_
              refine Plan.pickFb rfl rfl rfl ?_
              refine Plan.move_bool rfl rfl ?_
              refine Plan.passed rfl ?_
              refine Plan.passed rfl ?_
              refine Plan.passed rfl ?_
              refine Plan.pickFb rfl rfl rfl ?_
              refine Plan.assign_bool rfl rfl ?_
              refine Plan.nil ?_
              refine hK87 _ _ ?_; clear hK87
              refine W.ret (blockR_ret (thenR_ret (finR_ret ?_)))
              have h97 := St.pickT (C := [_, _, _, _, _, _, _]) h83 [] (by decide)
              simp only [pick, List.filterMap_cons, List.filterMap_nil, List.getElem?_cons_zero, List.getElem?_cons_succ, List.cons_append, List.nil_append] at h97
              subst r
              refine RetOk.mk (.tmp_bool rfl .nil) ?_
              exact ⟨rfl, h97⟩
          ·
            replace hR := ifF hR hc88
            refine Plan.cmpV (a := (((x_57 : Nat) : Int) : Int)) (b := (4 : Int)) (p := x_57 = 4) (v := false) rfl rfl rfl rfl icmp_eqN (decide_eq_false hc88) ?_
            refine Plan.move_bool rfl rfl ?_
            refine Plan.passed rfl ?_
            refine Plan.passed rfl ?_
            refine Plan.pickFb rfl rfl rfl ?_
            refine Plan.move_bool rfl rfl ?_
            refine Plan.passed rfl ?_
            refine Plan.passed rfl ?_
            refine Plan.pickFb rfl rfl rfl ?_
            refine Plan.move_bool rfl rfl ?_
            refine Plan.passed rfl ?_
            refine Plan.passed rfl ?_
            refine Plan.passed rfl ?_
            refine Plan.pickFb rfl rfl rfl ?_
            refine Plan.move_bool rfl rfl ?_
            refine Plan.passed rfl ?_
            refine Plan.passed rfl ?_
            refine Plan.passed rfl ?_
            refine Plan.pickFb rfl rfl rfl ?_
            refine Plan.move_bool rfl rfl ?_
            refine Plan.passed rfl ?_
            refine Plan.passed rfl ?_
            refine Plan.passed rfl ?_
            refine Plan.pickFb rfl rfl rfl ?_
            refine Plan.assign_bool rfl rfl ?_
            refine Plan.nil ?_
            refine hK87 _ _ ?_; clear hK87
            refine W.ret (blockR_ret (thenR_ret (finR_ret ?_)))
            have h98 := St.pickT (C := [_, _, _, _, _, _, _]) h83 [] (by decide)
            simp only [pick, List.filterMap_cons, List.filterMap_nil, List.getElem?_cons_zero, List.getElem?_cons_succ, List.cons_append, List.nil_append] at h98
            subst r
            refine RetOk.mk (.tmp_bool rfl .nil) ?_
            exact ⟨rfl, h98⟩
        ·
          replace hR := ifF hR hc86
          refine W.condF (congrArg Value.bool (decide_eq_false hc86)) ?_
          refine W.seq_k fun K99 hK99 => ?_
          refine W.regionT [(0, true), (1, true), (2, true)] (by kernel_rfl) ?_
          refine Plan.move_int rfl rfl ?_
          refine Plan.cmpP (a := (n_2 : Int)) (b := (8160 : Int)) (p := 8160 < n_2) rfl rfl rfl rfl icmp_gt ?_
          refine Plan.assign_bool rfl rfl ?_
          refine Plan.nil ?_
          refine hK99 _ _ ?_; clear hK99
          by_cases hc100 : 8160 < n_2
          ·
            replace hR := ifT hR hc100
            refine W.condT (congrArg Value.bool (decide_eq_true hc100)) ?_
            refine W.seq_k fun K101 hK101 => ?_
            refine W.regionT [(0, true), (1, true), (2, true), (3, true), (4, true), (5, true), (6, true), (7, true), (8, true), (9, true), (10, true), (11, true), (12, true), (13, true), (14, true), (15, true), (16, true), (17, true), (18, true), (19, true), (20, true), (21, true), (22, true), (23, true), (24, true), (25, true)] (by kernel_rfl) ?_
            refine Plan.move_int rfl rfl ?_
            by_cases hc102 : x_57 = 30
            ·
              replace hR := ifT hR hc102
              refine Plan.cmpV (a := (((x_57 : Nat) : Int) : Int)) (b := (30 : Int)) (p := x_57 = 30) (v := true) rfl rfl rfl rfl icmp_eqN (decide_eq_true hc102) ?_
              refine Plan.move_bool rfl rfl ?_
              refine Plan.move_int rfl rfl ?_
              by_cases hc103 : x_67 = 30
              ·
                replace hR := ifT hR hc103
                refine Plan.cmpV (a := (((x_67 : Nat) : Int) : Int)) (b := (30 : Int)) (p := x_67 = 30) (v := true) rfl rfl rfl rfl icmp_eqN (decide_eq_true hc103) ?_
                refine Plan.pickTb rfl rfl rfl ?_
                refine Plan.move_bool rfl rfl ?_
                refine Plan.move_int rfl rfl ?_
                by_cases hc104 : x_77 = 30
                ·
                  replace hR := ifT hR hc104
                  refine Plan.cmpV (a := (((x_77 : Nat) : Int) : Int)) (b := (30 : Int)) (p := x_77 = 30) (v := true) rfl rfl rfl rfl icmp_eqN (decide_eq_true hc104) ?_
                  refine Plan.pickTb rfl rfl rfl ?_
                  refine Plan.move_bool rfl rfl ?_
                  refine Plan.move_slice rfl rfl ?_
                  refine Plan.len FKdfBounds.isl22 rfl rfl ?_
                  by_cases hc105 : x_56.length = 0
                  ·
                    replace hR := ifT hR hc105
                    refine Plan.cmpV (a := (((x_56.length : Nat) : Int) : Int)) (b := (0 : Int)) (p := x_56.length = 0) (v := true) rfl rfl rfl rfl icmp_eqN (decide_eq_true hc105) ?_
                    refine Plan.pickTb rfl rfl rfl ?_
                    refine Plan.move_bool rfl rfl ?_
                    refine Plan.move_slice rfl rfl ?_
                    refine Plan.len FKdfBounds.isl62 rfl rfl ?_
                    by_cases hc106 : x_66.length = 0
                    ·
                      replace hR := ifT hR hc106
                      refine Plan.cmpV (a := (((x_66.length : Nat) : Int) : Int)) (b := (0 : Int)) (p := x_66.length = 0) (v := true) rfl rfl rfl rfl icmp_eqN (decide_eq_true hc106) ?_
                      refine Plan.pickTb rfl rfl rfl ?_
                      refine Plan.move_bool rfl rfl ?_
                      refine Plan.move_slice rfl rfl ?_
                      refine Plan.len FKdfBounds.isl22 rfl rfl ?_
                      refine Plan.cmpP (a := (((x_76.length : Nat) : Int) : Int)) (b := (0 : Int)) (p := x_76.length = 0) rfl rfl rfl rfl icmp_eqN ?_
                      refine Plan.pickTb rfl rfl rfl ?_
                      refine Plan.assign_bool rfl rfl ?_
                      refine Plan.nil ?_
                      refine hK101 _ _ ?_; clear hK101
                      refine W.ret (blockR_ret (thenR_ret (finR_ret ?_)))
                      have h107 := St.pickT (C := [_, _, _, _, _, _, _]) h83 [] (by decide)
                      simp only [pick, List.filterMap_cons, List.filterMap_nil, List.getElem?_cons_zero, List.getElem?_cons_succ, List.cons_append, List.nil_append] at h107
                      subst r
                      refine RetOk.mk (.tmp_bool rfl .nil) ?_
                      exact ⟨rfl, h107⟩
                    ·
                      replace hR := ifF hR hc106
                      refine Plan.cmpV (a := (((x_66.length : Nat) : Int) : Int)) (b := (0 : Int)) (p := x_66.length = 0) (v := false) rfl rfl rfl rfl icmp_eqN (decide_eq_false hc106) ?_
                      refine Plan.pickTb rfl rfl rfl ?_
                      refine Plan.move_bool rfl rfl ?_
                      refine Plan.passed rfl ?_
                      refine Plan.passed rfl ?_
                      refine Plan.passed rfl ?_
                      refine Plan.pickFb rfl rfl rfl ?_
                      refine Plan.assign_bool rfl rfl ?_
                      refine Plan.nil ?_
                      refine hK101 _ _ ?_; clear hK101
                      refine W.ret (blockR_ret (thenR_ret (finR_ret ?_)))
                      have h108 := St.pickT (C := [_, _, _, _, _, _, _]) h83 [] (by decide)
                      simp only [pick, List.filterMap_cons, List.filterMap_nil, List.getElem?_cons_zero, List.getElem?_cons_succ, List.cons_append, List.nil_append] at h108
                      subst r
                      refine RetOk.mk (.tmp_bool rfl .nil) ?_
                      exact ⟨rfl, h108⟩
                  ·
                    replace hR := ifF hR hc105
                    refine Plan.cmpV (a := (((x_56.length : Nat) : Int) : Int)) (b := (0 : Int)) (p := x_56.length = 0) (v := false) rfl rfl rfl rfl icmp_eqN (decide_eq_false hc105) ?_
                    refine Plan.pickTb rfl rfl rfl ?_
                    refine Plan.move_bool rfl rfl ?_
                    refine Plan.passed rfl ?_
                    refine Plan.passed rfl ?_
                    refine Plan.passed rfl ?_
                    refine Plan.pickFb rfl rfl rfl ?_
                    refine Plan.move_bool rfl rfl ?_
                    refine Plan.passed rfl ?_
                    refine Plan.passed rfl ?_
                    refine Plan.passed rfl ?_
                    refine Plan.pickFb rfl rfl rfl ?_
                    refine Plan.assign_bool rfl rfl ?_
                    refine Plan.nil ?_
                    refine hK101 _ _ ?_; clear hK101
                    refine W.ret (blockR_ret (thenR_ret (finR_ret ?_)))
                    have h109 := St.pickT (C := [_, _, _, _, _, _, _]) h83 [] (by decide)
                    simp only [pick, List.filterMap_cons, List.filterMap_nil, List.getElem?_cons_zero, List.getElem?_cons_succ, List.cons_append, List.nil_append] at h109
                    subst r
                    refine RetOk.mk (.tmp_bool rfl .nil) ?_
                    exact ⟨rfl, h109⟩
                ·
                  replace hR := ifF hR hc104
                  refine Plan.cmpV (a := (((x_77 : Nat) : Int) : Int)) (b := (30 : Int)) (p := x_77 = 30) (v := false) rfl rfl rfl rfl icmp_eqN (decide_eq_false hc104) ?_
                  refine Plan.pickTb rfl rfl rfl ?_
                  refine Plan.move_bool rfl rfl ?_
                  refine Plan.passed rfl ?_
                  refine Plan.passed rfl ?_
                  refine Plan.passed rfl ?_
                  refine Plan.pickFb rfl rfl rfl ?_
                  refine Plan.move_bool rfl rfl ?_
                  refine Plan.passed rfl ?_
                  refine Plan.passed rfl ?_
                  refine Plan.passed rfl ?_
                  refine Plan.pickFb rfl rfl rfl ?_
                  refine Plan.move_bool rfl rfl ?_
                  refine Plan.passed rfl ?_
                  refine Plan.passed rfl ?_
                  refine Plan.passed rfl ?_
                  refine Plan.pickFb rfl rfl rfl ?_
                  refine Plan.assign_bool rfl rfl ?_
                  refine Plan.nil ?_
                  refine hK101 _ _ ?_; clear hK101
                  refine W.ret (blockR_ret (thenR_ret (finR_ret ?_)))
                  have h110 := St.pickT (C := [_, _, _, _, _, _, _]) h83 [] (by decide)
                  simp only [pick, List.filterMap_cons, List.filterMap_nil, List.getElem?_cons_zero, List.getElem?_cons_succ, List.cons_append, List.nil_append] at h110
                  subst r
                  refine RetOk.mk (.tmp_bool rfl .nil) ?_
                  exact ⟨rfl, h110⟩
              ·
                replace hR := ifF hR hc103
                refine Plan.cmpV (a := (((x_67 : Nat) : Int) : Int)) (b := (30 : Int)) (p := x_67 = 30) (v := false) rfl rfl rfl rfl icmp_eqN (decide_eq_false hc103) ?_
                refine Plan.pickTb rfl rfl rfl ?_
                refine Plan.move_bool rfl rfl ?_
                refine Plan.passed rfl ?_
                refine Plan.passed rfl ?_
                refine Plan.pickFb rfl rfl rfl ?_
                refine Plan.move_bool rfl rfl ?_
                refine Plan.passed rfl ?_
                refine Plan.passed rfl ?_
                refine Plan.passed rfl ?_
                refine Plan.pickFb rfl rfl rfl ?_
                refine Plan.move_bool rfl rfl ?_
                refine Plan.passed rfl ?_
                refine Plan.passed rfl ?_
                refine Plan.passed rfl ?_
                refine Plan.pickFb rfl rfl rfl ?_
                refine Plan.move_bool rfl rfl ?_
                refine Plan.passed rfl ?_
                refine Plan.passed rfl ?_
                refine Plan.passed rfl ?_
                refine Plan.pickFb rfl rfl rfl ?_
                refine Plan.assign_bool rfl rfl ?_
                refine Plan.nil ?_
                refine hK101 _ _ ?_; clear hK101
                refine W.ret (blockR_ret (thenR_ret (finR_ret ?_)))
                have h111 := St.pickT (C := [_, _, _, _, _, _, _]) h83 [] (by decide)
                simp only [pick, List.filterMap_cons, List.filterMap_nil, List.getElem?_cons_zero, List.getElem?_cons_succ, List.cons_append, List.nil_append] at h111
                subst r
                refine RetOk.mk (.tmp_bool rfl .nil) ?_
                exact ⟨rfl, h111⟩
            ·
              replace hR := ifF hR hc102
              refine Plan.cmpV (a := (((x_57 : Nat) : Int) : Int)) (b := (30 : Int)) (p := x_57 = 30) (v := false) rfl rfl rfl rfl icmp_eqN (decide_eq_false hc102) ?_
              refine Plan.move_bool rfl rfl ?_
              refine Plan.passed rfl ?_
              refine Plan.passed rfl ?_
              refine Plan.pickFb rfl rfl rfl ?_
              refine Plan.move_bool rfl rfl ?_
              refine Plan.passed rfl ?_
              refine Plan.passed rfl ?_
              refine Plan.pickFb rfl rfl rfl ?_
              refine Plan.move_bool rfl rfl ?_
              refine Plan.passed rfl ?_
              refine Plan.passed rfl ?_
              refine Plan.passed rfl ?_
              refine Plan.pickFb rfl rfl rfl ?_
              refine Plan.move_bool rfl rfl ?_
              refine Plan.passed rfl ?_
              refine Plan.passed rfl ?_
              refine Plan.passed rfl ?_
              refine Plan.pickFb rfl rfl rfl ?_
              refine Plan.move_bool rfl rfl ?_
              refine Plan.passed rfl ?_
              refine Plan.passed rfl ?_
              refine Plan.passed rfl ?_
              refine Plan.pickFb rfl rfl rfl ?_
              refine Plan.assign_bool rfl rfl ?_
              refine Plan.nil ?_
              refine hK101 _ _ ?_; clear hK101
              refine W.ret (blockR_ret (thenR_ret (finR_ret ?_)))
              have h112 := St.pickT (C := [_, _, _, _, _, _, _]) h83 [] (by decide)
              simp only [pick, List.filterMap_cons, List.filterMap_nil, List.getElem?_cons_zero, List.getElem?_cons_succ, List.cons_append, List.nil_append] at h112
              subst r
              refine RetOk.mk (.tmp_bool rfl .nil) ?_
              exact ⟨rfl, h112⟩
          ·
            replace hR := ifF hR hc100
            refine W.condF (congrArg Value.bool (decide_eq_false hc100)) ?_
            refine W.seq_k fun K113 hK113 => ?_
            refine W.regionT [(0, true), (1, true), (2, true)] (by kernel_rfl) ?_
            refine Plan.move_int rfl rfl ?_
            refine Plan.cmpP (a := (n_2 : Int)) (b := (255 : Int)) (p := 255 < n_2) rfl rfl rfl rfl icmp_gt ?_
            refine Plan.assign_bool rfl rfl ?_
            refine Plan.nil ?_
            refine hK113 _ _ ?_; clear hK113
            by_cases hc114 : 255 < n_2
            ·
              replace hR := ifT hR hc114
              refine W.condT (congrArg Value.bool (decide_eq_true hc114)) ?_
              refine W.seq_k fun K115 hK115 => ?_
              refine W.regionT [(0, true), (1, true), (2, true), (3, true), (4, true), (5, true), (6, true), (7, true), (8, true), (9, true), (10, true), (11, true), (12, true), (13, true), (14, true), (15, true), (16, true), (17, true), (18, true), (19, true), (20, true), (21, true), (22, true), (23, true), (24, true), (25, true), (26, true), (27, true)] (by kernel_rfl) ?_
              refine Plan.move_int rfl rfl ?_
              by_cases hc116 : x_57 = 0
              ·
                replace hR := ifT hR hc116
                refine Plan.cmpV (a := (((x_57 : Nat) : Int) : Int)) (b := (0 : Int)) (p := x_57 = 0) (v := true) rfl rfl rfl rfl icmp_eqN (decide_eq_true hc116) ?_
                refine Plan.move_bool rfl rfl ?_
                refine Plan.move_int rfl rfl ?_
                by_cases hc117 : x_67 = 30
                ·
                  replace hR := ifT hR hc117
                  refine Plan.cmpV (a := (((x_67 : Nat) : Int) : Int)) (b := (30 : Int)) (p := x_67 = 30) (v := true) rfl rfl rfl rfl icmp_eqN (decide_eq_true hc117) ?_
                  refine Plan.pickTb rfl rfl rfl ?_
                  refine Plan.move_bool rfl rfl ?_
                  refine Plan.move_int rfl rfl ?_
                  by_cases hc118 : x_77 = 0
                  ·
                    replace hR := ifT hR hc118
                    refine Plan.cmpV (a := (((x_77 : Nat) : Int) : Int)) (b := (0 : Int)) (p := x_77 = 0) (v := true) rfl rfl rfl rfl icmp_eqN (decide_eq_true hc118) ?_
                    refine Plan.pickTb rfl rfl rfl ?_
                    refine Plan.move_bool rfl rfl ?_
                    refine Plan.move_slice rfl rfl ?_
                    refine Plan.len FKdfBounds.isl22 rfl rfl ?_
                    refine Plan.move_int rfl rfl ?_
                    by_cases hc119 : ((x_56.length : Nat) : Int) = n_2
                    ·
                      replace hR := ifT hR hc119
                      refine Plan.cmpV (a := (((x_56.length : Nat) : Int) : Int)) (b := (n_2 : Int)) (p := ((x_56.length : Nat) : Int) = n_2) (v := true) rfl rfl rfl rfl icmp_eq (decide_eq_true hc119) ?_
                      refine Plan.pickTb rfl rfl rfl ?_
                      refine Plan.move_bool rfl rfl ?_
                      refine Plan.move_slice rfl rfl ?_
                      refine Plan.len FKdfBounds.isl62 rfl rfl ?_
                      by_cases hc120 : x_66.length = 0
                      ·
                        replace hR := ifT hR hc120
                        refine Plan.cmpV (a := (((x_66.length : Nat) : Int) : Int)) (b := (0 : Int)) (p := x_66.length = 0) (v := true) rfl rfl rfl rfl icmp_eqN (decide_eq_true hc120) ?_
                        refine Plan.pickTb rfl rfl rfl ?_
                        refine Plan.move_bool rfl rfl ?_
                        refine Plan.move_slice rfl rfl ?_
                        refine Plan.len FKdfBounds.isl22 rfl rfl ?_
                        refine Plan.move_int rfl rfl ?_
                        refine Plan.cmpP (a := (((x_76.length : Nat) : Int) : Int)) (b := (n_2 : Int)) (p := ((x_76.length : Nat) : Int) = n_2) rfl rfl rfl rfl icmp_eq ?_
                        refine Plan.pickTb rfl rfl rfl ?_
                        refine Plan.assign_bool rfl rfl ?_
                        refine Plan.nil ?_
                        refine hK115 _ _ ?_; clear hK115
                        refine W.ret (blockR_ret (thenR_ret (finR_ret ?_)))
                        have h121 := St.pickT (C := [_, _, _, _, _, _, _]) h83 [] (by decide)
                        simp only [pick, List.filterMap_cons, List.filterMap_nil, List.getElem?_cons_zero, List.getElem?_cons_succ, List.cons_append, List.nil_append] at h121
                        subst r
                        refine RetOk.mk (.tmp_bool rfl .nil) ?_
                        exact ⟨rfl, h121⟩
                      ·
                        replace hR := ifF hR hc120
                        refine Plan.cmpV (a := (((x_66.length : Nat) : Int) : Int)) (b := (0 : Int)) (p := x_66.length = 0) (v := false) rfl rfl rfl rfl icmp_eqN (decide_eq_false hc120) ?_
                        refine Plan.pickTb rfl rfl rfl ?_
                        refine Plan.move_bool rfl rfl ?_
                        refine Plan.passed rfl ?_
                        refine Plan.passed rfl ?_
                        refine Plan.passed rfl ?_
                        refine Plan.passed rfl ?_
                        refine Plan.pickFb rfl rfl rfl ?_
                        refine Plan.assign_bool rfl rfl ?_
                        refine Plan.nil ?_
                        refine hK115 _ _ ?_; clear hK115
                        refine W.ret (blockR_ret (thenR_ret (finR_ret ?_)))
                        have h122 := St.pickT (C := [_, _, _, _, _, _, _]) h83 [] (by decide)
                        simp only [pick, List.filterMap_cons, List.filterMap_nil, List.getElem?_cons_zero, List.getElem?_cons_succ, List.cons_append, List.nil_append] at h122
                        subst r
                        refine RetOk.mk (.tmp_bool rfl .nil) ?_
                        exact ⟨rfl, h122⟩
                    ·
                      replace hR := ifF hR hc119
                      refine Plan.cmpV (a := (((x_56.length : Nat) : Int) : Int)) (b := (n_2 : Int)) (p := ((x_56.length : Nat) : Int) = n_2) (v := false) rfl rfl rfl rfl icmp_eq (decide_eq_false hc119) ?_
                      refine Plan.pickTb rfl rfl rfl ?_
                      refine Plan.move_bool rfl rfl ?_
                      refine Plan.passed rfl ?_
                      refine Plan.passed rfl ?_
                      refine Plan.passed rfl ?_
                      refine Plan.pickFb rfl rfl rfl ?_
                      refine Plan.move_bool rfl rfl ?_
                      refine Plan.passed rfl ?_
                      refine Plan.passed rfl ?_
                      refine Plan.passed rfl ?_
                      refine Plan.passed rfl ?_
                      refine Plan.pickFb rfl rfl rfl ?_
                      refine Plan.assign_bool rfl rfl ?_
                      refine Plan.nil ?_
                      refine hK115 _ _ ?_; clear hK115
                      refine W.ret (blockR_ret (thenR_ret (finR_ret ?_)))
                      have h123 := St.pickT (C := [_, _, _, _, _, _, _]) h83 [] (by decide)
                      simp only [pick, List.filterMap_cons, List.filterMap_nil, List.getElem?_cons_zero, List.getElem?_cons_succ, List.cons_append, List.nil_append] at h123
                      subst r
                      refine RetOk.mk (.tmp_bool rfl .nil) ?_
                      exact ⟨rfl, h123⟩
                  ·
                    replace hR := ifF hR hc118
                    refine Plan.cmpV (a := (((x_77 : Nat) : Int) : Int)) (b := (0 : Int)) (p := x_77 = 0) (v := false) rfl rfl rfl rfl icmp_eqN (decide_eq_false hc118) ?_
                    refine Plan.pickTb rfl rfl rfl ?_
                    refine Plan.move_bool rfl rfl ?_
                    refine Plan.passed rfl ?_
                    refine Plan.passed rfl ?_
                    refine Plan.passed rfl ?_
                    refine Plan.passed rfl ?_
                    refine Plan.pickFb rfl rfl rfl ?_
                    refine Plan.move_bool rfl rfl ?_
                    refine Plan.passed rfl ?_
                    refine Plan.passed rfl ?_
                    refine Plan.passed rfl ?_
                    refine Plan.pickFb rfl rfl rfl ?_
                    refine Plan.move_bool rfl rfl ?_
                    refine Plan.passed rfl ?_
                    refine Plan.passed rfl ?_
                    refine Plan.passed rfl ?_
                    refine Plan.passed rfl ?_
                    refine Plan.pickFb rfl rfl rfl ?_
                    refine Plan.assign_bool rfl rfl ?_
                    refine Plan.nil ?_
                    refine hK115 _ _ ?_; clear hK115
                    refine W.ret (blockR_ret (thenR_ret (finR_ret ?_)))
                    have h124 := St.pickT (C := [_, _, _, _, _, _, _]) h83 [] (by decide)
                    simp only [pick, List.filterMap_cons, List.filterMap_nil, List.getElem?_cons_zero, List.getElem?_cons_succ, List.cons_append, List.nil_append] at h124
                    subst r
                    refine RetOk.mk (.tmp_bool rfl .nil) ?_
                    exact ⟨rfl, h124⟩
                ·
                  replace hR := ifF hR hc117
                  refine Plan.cmpV (a := (((x_67 : Nat) : Int) : Int)) (b := (30 : Int)) (p := x_67 = 30) (v := false) rfl rfl rfl rfl icmp_eqN (decide_eq_false hc117) ?_
                  refine Plan.pickTb rfl rfl rfl ?_
                  refine Plan.move_bool rfl rfl ?_
                  refine Plan.passed rfl ?_
                  refine Plan.passed rfl ?_
                  refine Plan.pickFb rfl rfl rfl ?_
                  refine Plan.move_bool rfl rfl ?_
                  refine Plan.passed rfl ?_
                  refine Plan.passed rfl ?_
                  refine Plan.passed rfl ?_
                  refine Plan.passed rfl ?_
                  refine Plan.pickFb rfl rfl rfl ?_
                  refine Plan.move_bool rfl rfl ?_
                  refine Plan.passed rfl ?_
                  refine Plan.passed rfl ?_
                  refine Plan.passed rfl ?_
                  refine Plan.pickFb rfl rfl rfl ?_
                  refine Plan.move_bool rfl rfl ?_
                  refine Plan.passed rfl ?_
                  refine Plan.passed rfl ?_
                  refine Plan.passed rfl ?_
                  refine Plan.passed rfl ?_
                  refine Plan.pickFb rfl rfl rfl ?_
                  refine Plan.assign_bool rfl rfl ?_
                  refine Plan.nil ?_
                  refine hK115 _ _ ?_; clear hK115
                  refine W.ret (blockR_ret (thenR_ret (finR_ret ?_)))
                  have h125 := St.pickT (C := [_, _, _, _, _, _, _]) h83 [] (by decide)
                  simp only [pick, List.filterMap_cons, List.filterMap_nil, List.getElem?_cons_zero, List.getElem?_cons_succ, List.cons_append, List.nil_append] at h125
                  subst r
                  refine RetOk.mk (.tmp_bool rfl .nil) ?_
                  exact ⟨rfl, h125⟩
              ·
                replace hR := ifF hR hc116
                refine Plan.cmpV (a := (((x_57 : Nat) : Int) : Int)) (b := (0 : Int)) (p := x_57 = 0) (v := false) rfl rfl rfl rfl icmp_eqN (decide_eq_false hc116) ?_
                refine Plan.move_bool rfl rfl ?_
                refine Plan.passed rfl ?_
                refine Plan.passed rfl ?_
                refine Plan.pickFb rfl rfl rfl ?_
                refine Plan.move_bool rfl rfl ?_
                refine Plan.passed rfl ?_
                refine Plan.passed rfl ?_
                refine Plan.pickFb rfl rfl rfl ?_
                refine Plan.move_bool rfl rfl ?_
                refine Plan.passed rfl ?_
                refine Plan.passed rfl ?_
                refine Plan.passed rfl ?_
                refine Plan.passed rfl ?_
                refine Plan.pickFb rfl rfl rfl ?_
                refine Plan.move_bool rfl rfl ?_
                refine Plan.passed rfl ?_
                refine Plan.passed rfl ?_
                refine Plan.passed rfl ?_
                refine Plan.pickFb rfl rfl rfl ?_
                refine Plan.move_bool rfl rfl ?_
                refine Plan.passed rfl ?_
                refine Plan.passed rfl ?_
                refine Plan.passed rfl ?_
                refine Plan.passed rfl ?_
                refine Plan.pickFb rfl rfl rfl ?_
                refine Plan.assign_bool rfl rfl ?_
                refine Plan.nil ?_
                refine hK115 _ _ ?_; clear hK115
                refine W.ret (blockR_ret (thenR_ret (finR_ret ?_)))
                have h126 := St.pickT (C := [_, _, _, _, _, _, _]) h83 [] (by decide)
                simp only [pick, List.filterMap_cons, List.filterMap_nil, List.getElem?_cons_zero, List.getElem?_cons_succ, List.cons_append, List.nil_append] at h126
                subst r
                refine RetOk.mk (.tmp_bool rfl .nil) ?_
                exact ⟨rfl, h126⟩
            ·
              replace hR := ifF hR hc114
              refine W.condF (congrArg Value.bool (decide_eq_false hc114)) ?_
              refine W.skip ?_
              refine blockR_norm ?_
              refine hK84 _ _ ?_; clear hK84
              refine W.seq_k fun K127 hK127 => ?_
              refine W.regionT [(0, true), (1, true), (2, true), (3, true), (4, true), (5, true), (6, true), (7, true), (8, true), (9, true), (10, true), (11, true), (12, true), (13, true), (14, true), (15, true), (16, true), (17, true), (18, true), (19, true), (20, true), (21, true), (22, true), (23, true), (24, true), (25, true), (26, true), (27, true), (28, true)] (by kernel_rfl) ?_
              refine Plan.move_int rfl rfl ?_
              by_cases hc128 : x_57 = 0
              ·
                replace hR := ifT hR hc128
                refine Plan.cmpV (a := (((x_57 : Nat) : Int) : Int)) (b := (0 : Int)) (p := x_57 = 0) (v := true) rfl rfl rfl rfl icmp_eqN (decide_eq_true hc128) ?_
                refine Plan.move_bool rfl rfl ?_
                refine Plan.move_int rfl rfl ?_
                by_cases hc129 : x_67 = 0
                ·
                  replace hR := ifT hR hc129
                  refine Plan.cmpV (a := (((x_67 : Nat) : Int) : Int)) (b := (0 : Int)) (p := x_67 = 0) (v := true) rfl rfl rfl rfl icmp_eqN (decide_eq_true hc129) ?_
                  refine Plan.pickTb rfl rfl rfl ?_
                  refine Plan.move_bool rfl rfl ?_
                  refine Plan.move_int rfl rfl ?_
                  by_cases hc130 : x_77 = 0
                  ·
                    replace hR := ifT hR hc130
                    refine Plan.cmpV (a := (((x_77 : Nat) : Int) : Int)) (b := (0 : Int)) (p := x_77 = 0) (v := true) rfl rfl rfl rfl icmp_eqN (decide_eq_true hc130) ?_
                    refine Plan.pickTb rfl rfl rfl ?_
                    refine Plan.move_bool rfl rfl ?_
                    refine Plan.move_slice rfl rfl ?_
                    refine Plan.len FKdfBounds.isl22 rfl rfl ?_
                    refine Plan.move_int rfl rfl ?_
                    by_cases hc131 : ((x_56.length : Nat) : Int) = n_2
                    ·
                      replace hR := ifT hR hc131
                      refine Plan.cmpV (a := (((x_56.length : Nat) : Int) : Int)) (b := (n_2 : Int)) (p := ((x_56.length : Nat) : Int) = n_2) (v := true) rfl rfl rfl rfl icmp_eq (decide_eq_true hc131) ?_
                      refine Plan.pickTb rfl rfl rfl ?_
                      refine Plan.move_bool rfl rfl ?_
                      refine Plan.move_slice rfl rfl ?_
                      refine Plan.len FKdfBounds.isl62 rfl rfl ?_
                      refine Plan.move_int rfl rfl ?_
                      by_cases hc132 : ((x_66.length : Nat) : Int) = n_2
                      ·
                        replace hR := ifT hR hc132
                        refine Plan.cmpV (a := (((x_66.length : Nat) : Int) : Int)) (b := (n_2 : Int)) (p := ((x_66.length : Nat) : Int) = n_2) (v := true) rfl rfl rfl rfl icmp_eq (decide_eq_true hc132) ?_
                        refine Plan.pickTb rfl rfl rfl ?_
                        refine Plan.move_bool rfl rfl ?_
                        refine Plan.move_slice rfl rfl ?_
                        refine Plan.len FKdfBounds.isl22 rfl rfl ?_
                        refine Plan.move_int rfl rfl ?_
                        refine Plan.cmpP (a := (((x_76.length : Nat) : Int) : Int)) (b := (n_2 : Int)) (p := ((x_76.length : Nat) : Int) = n_2) rfl rfl rfl rfl icmp_eq ?_
                        refine Plan.pickTb rfl rfl rfl ?_
                        refine Plan.assign_bool rfl rfl ?_
                        refine Plan.nil ?_
                        refine hK127 _ _ ?_; clear hK127
                        refine W.ret (finR_ret ?_)
                        have h133 := St.pickT (C := [_, _, _, _, _, _, _]) h83 [] (by decide)
                        simp only [pick, List.filterMap_cons, List.filterMap_nil, List.getElem?_cons_zero, List.getElem?_cons_succ, List.cons_append, List.nil_append] at h133
                        subst r
                        refine RetOk.mk (.tmp_bool rfl .nil) ?_
                        exact ⟨rfl, h133⟩
                      ·
                        replace hR := ifF hR hc132
                        refine Plan.cmpV (a := (((x_66.length : Nat) : Int) : Int)) (b := (n_2 : Int)) (p := ((x_66.length : Nat) : Int) = n_2) (v := false) rfl rfl rfl rfl icmp_eq (decide_eq_false hc132) ?_
                        refine Plan.pickTb rfl rfl rfl ?_
                        refine Plan.move_bool rfl rfl ?_
                        refine Plan.passed rfl ?_
                        refine Plan.passed rfl ?_
                        refine Plan.passed rfl ?_
                        refine Plan.passed rfl ?_
                        refine Plan.pickFb rfl rfl rfl ?_
                        refine Plan.assign_bool rfl rfl ?_
                        refine Plan.nil ?_
                        refine hK127 _ _ ?_; clear hK127
                        refine W.ret (finR_ret ?_)
                        have h134 := St.pickT (C := [_, _, _, _, _, _, _]) h83 [] (by decide)
                        simp only [pick, List.filterMap_cons, List.filterMap_nil, List.getElem?_cons_zero, List.getElem?_cons_succ, List.cons_append, List.nil_append] at h134
                        subst r
                        refine RetOk.mk (.tmp_bool rfl .nil) ?_
                        exact ⟨rfl, h134⟩
                    ·
                      replace hR := ifF hR hc131
                      refine Plan.cmpV (a := (((x_56.length : Nat) : Int) : Int)) (b := (n_2 : Int)) (p := ((x_56.length : Nat) : Int) = n_2) (v := false) rfl rfl rfl rfl icmp_eq (decide_eq_false hc131) ?_
                      refine Plan.pickTb rfl rfl rfl ?_
                      refine Plan.move_bool rfl rfl ?_
                      refine Plan.passed rfl ?_
                      refine Plan.passed rfl ?_
                      refine Plan.passed rfl ?_
                      refine Plan.passed rfl ?_
                      refine Plan.pickFb rfl rfl rfl ?_
                      refine Plan.move_bool rfl rfl ?_
                      refine Plan.passed rfl ?_
                      refine Plan.passed rfl ?_
                      refine Plan.passed rfl ?_
                      refine Plan.passed rfl ?_
                      refine Plan.pickFb rfl rfl rfl ?_
                      refine Plan.assign_bool rfl rfl ?_
                      refine Plan.nil ?_
                      refine hK127 _ _ ?_; clear hK127
                      refine W.ret (finR_ret ?_)
                      have h135 := St.pickT (C := [_, _, _, _, _, _, _]) h83 [] (by decide)
                      simp only [pick, List.filterMap_cons, List.filterMap_nil, List.getElem?_cons_zero, List.getElem?_cons_succ, List.cons_append, List.nil_append] at h135
                      subst r
                      refine RetOk.mk (.tmp_bool rfl .nil) ?_
                      exact ⟨rfl, h135⟩
                  ·
                    replace hR := ifF hR hc130
                    refine Plan.cmpV (a := (((x_77 : Nat) : Int) : Int)) (b := (0 : Int)) (p := x_77 = 0) (v := false) rfl rfl rfl rfl icmp_eqN (decide_eq_false hc130) ?_
                    refine Plan.pickTb rfl rfl rfl ?_
                    refine Plan.move_bool rfl rfl ?_
                    refine Plan.passed rfl ?_
                    refine Plan.passed rfl ?_
                    refine Plan.passed rfl ?_
                    refine Plan.passed rfl ?_
                    refine Plan.pickFb rfl rfl rfl ?_
                    refine Plan.move_bool rfl rfl ?_
                    refine Plan.passed rfl ?_
                    refine Plan.passed rfl ?_
                    refine Plan.passed rfl ?_
                    refine Plan.passed rfl ?_
                    refine Plan.pickFb rfl rfl rfl ?_
                    refine Plan.move_bool rfl rfl ?_
                    refine Plan.passed rfl ?_
                    refine Plan.passed rfl ?_
                    refine Plan.passed rfl ?_
                    refine Plan.passed rfl ?_
                    refine Plan.pickFb rfl rfl rfl ?_
                    refine Plan.assign_bool rfl rfl ?_
                    refine Plan.nil ?_
                    refine hK127 _ _ ?_; clear hK127
                    refine W.ret (finR_ret ?_)
                    have h136 := St.pickT (C := [_, _, _, _, _, _, _]) h83 [] (by decide)
                    simp only [pick, List.filterMap_cons, List.filterMap_nil, List.getElem?_cons_zero, List.getElem?_cons_succ, List.cons_append, List.nil_append] at h136
                    subst r
                    refine RetOk.mk (.tmp_bool rfl .nil) ?_
                    exact ⟨rfl, h136⟩
                ·
                  replace hR := ifF hR hc129
                  refine Plan.cmpV (a := (((x_67 : Nat) : Int) : Int)) (b := (0 : Int)) (p := x_67 = 0) (v := false) rfl rfl rfl rfl icmp_eqN (decide_eq_false hc129) ?_
                  refine Plan.pickTb rfl rfl rfl ?_
                  refine Plan.move_bool rfl rfl ?_
                  refine Plan.passed rfl ?_
                  refine Plan.passed rfl ?_
                  refine Plan.pickFb rfl rfl rfl ?_
                  refine Plan.move_bool rfl rfl ?_
                  refine Plan.passed rfl ?_
                  refine Plan.passed rfl ?_
                  refine Plan.passed rfl ?_
                  refine Plan.passed rfl ?_
                  refine Plan.pickFb rfl rfl rfl ?_
                  refine Plan.move_bool rfl rfl ?_
                  refine Plan.passed rfl ?_
                  refine Plan.passed rfl ?_
                  refine Plan.passed rfl ?_
                  refine Plan.passed rfl ?_
                  refine Plan.pickFb rfl rfl rfl ?_
                  refine Plan.move_bool rfl rfl ?_
                  refine Plan.passed rfl ?_
                  refine Plan.passed rfl ?_
                  refine Plan.passed rfl ?_
                  refine Plan.passed rfl ?_
                  refine Plan.pickFb rfl rfl rfl ?_
                  refine Plan.assign_bool rfl rfl ?_
                  refine Plan.nil ?_
                  refine hK127 _ _ ?_; clear hK127
                  refine W.ret (finR_ret ?_)
                  have h137 := St.pickT (C := [_, _, _, _, _, _, _]) h83 [] (by decide)
                  simp only [pick, List.filterMap_cons, List.filterMap_nil, List.getElem?_cons_zero, List.getElem?_cons_succ, List.cons_append, List.nil_append] at h137
                  subst r
                  refine RetOk.mk (.tmp_bool rfl .nil) ?_
                  exact ⟨rfl, h137⟩
              ·
                replace hR := ifF hR hc128
                refine Plan.cmpV (a := (((x_57 : Nat) : Int) : Int)) (b := (0 : Int)) (p := x_57 = 0) (v := false) rfl rfl rfl rfl icmp_eqN (decide_eq_false hc128) ?_
                refine Plan.move_bool rfl rfl ?_
                refine Plan.passed rfl ?_
                refine Plan.passed rfl ?_
                refine Plan.pickFb rfl rfl rfl ?_
                refine Plan.move_bool rfl rfl ?_
                refine Plan.passed rfl ?_
                refine Plan.passed rfl ?_
                refine Plan.pickFb rfl rfl rfl ?_
                refine Plan.move_bool rfl rfl ?_
                refine Plan.passed rfl ?_
                refine Plan.passed rfl ?_
                refine Plan.passed rfl ?_
                refine Plan.passed rfl ?_
                refine Plan.pickFb rfl rfl rfl ?_
                refine Plan.move_bool rfl rfl ?_
                refine Plan.passed rfl ?_
                refine Plan.passed rfl ?_
                refine Plan.passed rfl ?_
                refine Plan.passed rfl ?_
                refine Plan.pickFb rfl rfl rfl ?_
                refine Plan.move_bool rfl rfl ?_
                refine Plan.passed rfl ?_
                refine Plan.passed rfl ?_
                refine Plan.passed rfl ?_
                refine Plan.passed rfl ?_
                refine Plan.pickFb rfl rfl rfl ?_
                refine Plan.assign_bool rfl rfl ?_
                refine Plan.nil ?_
                refine hK127 _ _ ?_; clear hK127
                refine W.ret (finR_ret ?_)
                have h138 := St.pickT (C := [_, _, _, _, _, _, _]) h83 [] (by decide)
                simp only [pick, List.filterMap_cons, List.filterMap_nil, List.getElem?_cons_zero, List.getElem?_cons_succ, List.cons_append, List.nil_append] at h138
                subst r
                refine RetOk.mk (.tmp_bool rfl .nil) ?_
                exact ⟨rfl, h138⟩
      ·
        replace hR := ifF hR hc53
        refine W.condT (congrArg Value.bool (congrArg Bool.not (Bool.eq_false_iff.2 hc53))) ?_
        refine W.seq_k fun K139 hK139 => ?_
        refine W.regionT [(0, true)] (by kernel_rfl) ?_
        refine Plan.assign_bool rfl rfl ?_
        refine Plan.nil ?_
        refine hK139 _ _ ?_; clear hK139
        refine W.ret (thenR_ret (finR_ret ?_))
        have h140 := St.pickT (C := [_, _, _, _]) h52 [] (by decide)
        simp only [pick, List.filterMap_cons, List.filterMap_nil, List.getElem?_cons_zero, List.getElem?_cons_succ, List.cons_append, List.nil_append] at h140
        subst r
        refine RetOk.mk (.tmp_bool rfl .nil) ?_
        exact ⟨rfl, h140⟩

end Go.Proofs.YtjdgbahjpdopbaaDoor
