/-
  WALKS of the package's functions, printed by this session's own program (auto.py).
-/
import Derived.Test.YtjdgbahjpdopbaaDoorProg
import Derived.Test.YtjdgbahjpdopbaaDoorLx5
import Derived.Test.YtjdgbahjpdopbaaDoorRKdfPads
import Derived.Test.YtjdgbahjpdopbaaDoorWKdf
import Derived.Test.YtjdgbahjpdopbaaDoorWLaw03
import Derived.Test.YtjdgbahjpdopbaaDoorWSha
namespace Go.Proofs.YtjdgbahjpdopbaaDoor
set_option linter.unusedSimpArgs false
set_option linter.unusedVariables false
set_option linter.unusedSectionVars false
open Go Go.LW
theorem FKdfPads.zv22 : (Tryd.prog.info? 22).bind (·.zero) = some (.slice none 0 0) := by kernel_rfl
theorem FKdfPads.slu75 : Tryd.prog.underlying 75 = some (.slice 22) := by kernel_rfl
theorem FKdfPads.sz22 : szT Tryd.prog 22 1 = true := by kernel_rfl
theorem FKdfPads.z32 : zeroIs Tryd.prog 32 [(32, fun _ => VU .u8 0#8)] := zeroIs_agg (by kernel_rfl)
theorem FKdfPads.isl22 : ∃ el, Tryd.prog.underlying 22 = some (.slice el) := ⟨5, by kernel_rfl⟩
theorem FKdfPads.mixed : Tryd.prog.follows .mixedOrders = true := by kernel_rfl
theorem FKdfPads.sl22 : slB Tryd.prog 22 1 = true := by kernel_rfl
theorem FKdfPads.arr32 : arrB Tryd.prog 32 32 1 = true := by kernel_rfl
theorem FKdfPads.agg32 : aggT Tryd.prog 32 32 = true := by kernel_rfl
theorem FKdfPads.sz32 : szT Tryd.prog 32 32 = true := by kernel_rfl
theorem FKdfPads.call21 : callB Tryd.prog 21 = true := by kernel_rfl
theorem FKdfPads.call36 : callB Tryd.prog 36 = true := by kernel_rfl
theorem FKdfPads.call32 : callB Tryd.prog 32 = true := by kernel_rfl
theorem FKdfPads.call33 : callB Tryd.prog 33 = true := by kernel_rfl
theorem FKdfPads.call34 : callB Tryd.prog 34 = true := by kernel_rfl
theorem FKdfPads.arrI32 : arrIB Tryd.prog 32 32 .u8 = true := by kernel_rfl
theorem FKdfPads.el22 : elD Tryd.prog 22 = some (1, 1, some (VU .u8 0#8)) := by kernel_rfl
theorem FKdfPads.u3 : Tryd.prog.underlying 3 = some (.int .i64) := by kernel_rfl
theorem FKdfPads.str9 : Tryd.prog.underlying 9 = some .string := by kernel_rfl
theorem FKdfPads.call37 : callB Tryd.prog 37 = true := by kernel_rfl

set_option maxRecDepth 8000 in
set_option maxHeartbeats 1000000 in
theorem lethelaw03_KdfPads_ok {B : Nat} {w0 w : World} {L : List Rg} {iG0 : Nat} (hG0 : L[iG0]? = some ⟨some 0, 0, 64, fun q => VU .u32 (K256 q), false⟩) {iG1 : Nat} (hG1 : L[iG1]? = some ⟨some 1, 0, 8, fun q => VU .u32 (H256 q), false⟩) {key1 : List Byte} {akey1 : Option Addr} {nkey1 ckey1 ikey1 : Nat} (hkey1 : Bx L ikey1 akey1 nkey1 ckey1 key1) {zeros2 : Int} {text3 : List Byte} {atext3 : Option Addr} {ntext3 ctext3 itext3 : Nat} (htext3 : Bx L itext3 atext3 ntext3 ctext3 text3) {cut4 : Int} {r : Bool} (hR : lethelaw03_KdfPads key1 zeros2 text3 cut4 r) (HST : St B w0 (L) w) :
    Calls Tryd.prog 9 #[.slice akey1 nkey1 ckey1, .int .i64 zeros2, .slice atext3 ntext3 ctext3, .int .i64 cut4] w fun e w' => e = .returned (.bool r) ∧ St B w0 (L) w' := by
  refine W.enter 73 Tryd.func9 rfl rfl rfl ?_
  unfold lethelaw03_KdfPads at hR
  have ekey1 := hkey1.hl; subst ekey1
  have etext3 := htext3.hl; subst etext3
  refine W.seq_k fun K5 hK5 => ?_
  refine W.regionT [(0, true)] (by kernel_rfl) ?_
  refine Plan.assign_bool rfl rfl ?_
  refine Plan.nil ?_
  refine hK5 _ _ ?_; clear hK5
  refine W.seq_k fun K6 hK6 => ?_
  refine W.seq_k fun K7 hK7 => ?_
  refine W.regionT [(0, false), (1, true)] (by kernel_rfl) ?_
  obtain ⟨x_9, hr8, hR⟩ := hR
  refine Plan.call (vs := []) rfl FKdfPads.call32 rfl (lethelaw03_awake_ok (iG0 := iG0 + 0) hG0 (iG1 := iG1 + 0) hG1 hr8 HST) ?_
  rintro _ w10 ⟨rfl, h10⟩
  refine ⟨_, rfl, .inl ⟨PIn.keep PIn.nil h10, ?_⟩⟩
  refine Plan.not rfl rfl ?_
  refine Plan.nil ?_
  refine hK7 _ _ ?_; clear hK7
  by_cases hc11 : x_9 = true
  ·
    replace hR := ifT hR hc11
    refine W.condF (congrArg Value.bool (congrArg Bool.not hc11)) ?_
    refine W.skip ?_
    refine hK6 _ _ ?_; clear hK6
    refine W.seq_k fun K12 hK12 => ?_
    refine W.regionT [(0, true), (1, false), (2, true), (3, false), (4, true), (5, true)] (by kernel_rfl) ?_
    refine Plan.move_slice rfl rfl ?_
    obtain ⟨x_14, hr13, hR⟩ := hR
    refine Plan.call (vs := [.slice akey1 key1.length ckey1]) rfl FKdfPads.call33 rfl (lethelaw03_short_ok hkey1 hr13 h10) ?_
    rintro _ w18 ⟨ay0_15, ny0_16, cy0_17, rfl, h18, hf18_0⟩
    obtain rfl := hf18_0.hl
    refine ⟨_, rfl, .inl ⟨PIn.keep PIn.nil h18, ?_⟩⟩
    refine Plan.move_slice rfl rfl ?_
    obtain ⟨x_20, hr19, hR⟩ := hR
    refine Plan.call (vs := [.slice atext3 text3.length ctext3]) rfl FKdfPads.call33 rfl (lethelaw03_short_ok htext3 hr19 h18) ?_
    rintro _ w24 ⟨ay0_21, ny0_22, cy0_23, rfl, h24, hf24_0⟩
    obtain rfl := hf24_0.hl
    refine ⟨_, rfl, .inl ⟨PIn.keep PIn.nil h24, ?_⟩⟩
    refine Plan.assign_slice rfl rfl ?_
    refine Plan.assign_slice rfl rfl ?_
    refine Plan.nil ?_
    refine hK12 _ _ ?_; clear hK12
    refine W.seq_k fun K25 hK25 => ?_
    refine W.regionT [(0, true), (1, true), (2, true), (3, true), (4, false), (5, true)] (by kernel_rfl) ?_
    refine Plan.move_int rfl rfl ?_
    refine Plan.move_slice rfl rfl ?_
    refine Plan.len FKdfPads.isl22 rfl rfl ?_
    obtain ⟨hc26, hR⟩ := hR
    refine Plan.addN (a := x_20.length) (b := 1) rfl rfl rfl (by omega) ?_
    obtain ⟨x_28, hr27, hR⟩ := hR
    refine Plan.call (vs := [.int .i64 cut4, VN (x_20.length + 1)]) rfl FKdfPads.call34 rfl (lethelaw03_rest_ok  hr27 h24) ?_
    rintro _ w29 ⟨rfl, h29⟩
    refine ⟨_, rfl, .inl ⟨PIn.keep PIn.nil h29, ?_⟩⟩
    refine Plan.assign_int rfl rfl ?_
    refine Plan.nil ?_
    refine hK25 _ _ ?_; clear hK25
    refine W.seq_k fun K30 hK30 => ?_
    refine W.regionT [(0, true), (1, true), (2, false), (3, false), (4, false), (5, false)] (by kernel_rfl) ?_
    refine Plan.move_slice rfl rfl ?_
    refine Plan.move_slice rfl rfl ?_
    refine Plan.buildSlice h29 (ps := [(1, fun i => .slice ((fun i => ([ay0_21] : List (Option Addr)).getD i none) i) ((fun i => ([x_20.length] : List Nat).getD i 0) i) ((fun i => ([cy0_23] : List Nat).getD i 0) i))]) FKdfPads.slu75 FKdfPads.sz22 FKdfPads.zv22 (by decide) (by decide) rfl rfl rfl (EffO.keep PIn.nil) fun b32 w32 hb32 h32 => ?_
    simp only [rngs, List.cons_append, List.nil_append] at h32
    obtain ⟨x_34, hr33, hR⟩ := hR
    refine Plan.call (vs := [.slice ay0_15 x_14.length cy0_17, .slice (some ⟨b32, 0, none⟩) 1 1]) rfl FKdfPads.call36 rfl (kdf_Mac_ok (iG0 := iG0 + 1) hG0 (iG1 := iG1 + 1) hG1 (hf18_0.app [_]) (by exact (Bss.of 0 rfl rfl (fun i hi => match i, hi with | 0, _ => ⟨_, (hf24_0.app [_])⟩ | k + 1, hk => absurd hk (by omega)))) hr33 h32) ?_
    rintro _ w35 ⟨rfl, h35⟩
    refine ⟨_, rfl, .inl ⟨PIn.keep PIn.nil h35, ?_⟩⟩
    refine Plan.alloc h35 rfl FKdfPads.z32 PIn.nil fun b36 w36 hb36 h36 => ?_
    simp only [rngs, Nat.zero_add, Nat.reduceAdd, List.cons_append, List.nil_append] at h36
    refine Plan.storeA (f' := fun q => VU .u8 (x_34 q)) h36 0 rfl rfl rfl rfl (fun _ _ => rfl) FKdfPads.sz32 rfl fun w37 h37 => ?_
    simp only [List.cons_append, List.nil_append, List.set_cons_zero, List.set_cons_succ] at h37
    refine Plan.nil ?_
    refine hK30 _ _ ?_; clear hK30
    refine W.seq_k fun K38 hK38 => ?_
    refine W.seq_k fun K39 hK39 => ?_
    refine W.regionD FKdfPads.mixed [(0, true), (1, true), (2, true), (3, true), (4, true), (5, true), (6, true), (9, true), (7, false), (8, false), (10, true)] (by kernel_rfl) ?_
    have h40 := h37.drew
    refine Plan.move_slice rfl rfl ?_
    refine Plan.move_slice rfl rfl ?_
    refine Plan.move_int rfl rfl ?_
    obtain ⟨hc41, hR⟩ := hR
    obtain ⟨hc42, hR⟩ := hR
    refine Plan.slV (lo := 0) (hi := x_28.toNat) hf24_0 FKdfPads.sl22 rfl rfl rfl ⟨_, congrArg (Value.int .i64) (Int.toNat_of_nonneg hc41).symm⟩ hc42 fun a43 c43 hv43 => ?_
    refine Plan.move_slice rfl rfl ?_
    refine Plan.move_int rfl rfl ?_
    obtain ⟨hc44, hR⟩ := hR
    obtain ⟨hc45, hR⟩ := hR
    refine Plan.slV (lo := x_28.toNat) (hi := x_20.length) hf24_0 FKdfPads.sl22 rfl rfl ⟨_, congrArg (Value.int .i64) (Int.toNat_of_nonneg hc44).symm⟩ rfl hc45 fun a46 c46 hv46 => ?_
    refine Plan.loadA1 h40 0 rfl rfl rfl FKdfPads.agg32 ?_
    refine Plan.buildSlice h40 (ps := [(2, fun i => .slice ((fun i => ([a43, a46] : List (Option Addr)).getD i none) i) ((fun i => ([(seg x_20 0 x_28.toNat).length, (seg x_20 x_28.toNat x_20.length).length] : List Nat).getD i 0) i) ((fun i => ([c43, c46] : List Nat).getD i 0) i))]) FKdfPads.slu75 FKdfPads.sz22 FKdfPads.zv22 (by decide) (by decide) rfl rfl rfl (EffO.keep (PIn.cons 0 rfl PIn.nil)) fun b48 w48 hb48 h48 => ?_
    simp only [rngs, List.cons_append, List.nil_append] at h48
    obtain ⟨x_50, hr49, hR⟩ := hR
    refine Plan.call (vs := [.slice ay0_15 x_14.length cy0_17, .slice (some ⟨b48, 0, none⟩) 2 2]) rfl FKdfPads.call36 rfl (kdf_Mac_ok (iG0 := iG0 + 3) hG0 (iG1 := iG1 + 3) hG1 (hf18_0.app [_, _, _]) (by exact (Bss.of 0 rfl rfl (fun i hi => match i, hi with | 0, _ => ⟨_, (hv43.app [_, _, _])⟩ | 1, _ => ⟨_, (hv46.app [_, _, _])⟩ | k + 2, hk => absurd hk (by omega)))) hr49 h48) ?_
    rintro _ w51 ⟨rfl, h51⟩
    refine ⟨_, rfl, .inl ⟨PIn.keep (PIn.cons 1 rfl PIn.nil) h51, ?_⟩⟩
    refine Plan.neArrV (b := (eqB 32 x_50 x_34)) FKdfPads.arrI32 rfl rfl rfl rfl ?_
    refine Plan.nil ?_
    refine hK39 _ _ ?_; clear hK39
    by_cases hc52 : (eqB 32 x_50 x_34) = true
    ·
      replace hR := ifT hR hc52
      refine W.condF (congrArg Value.bool (congrArg Bool.not hc52)) ?_
      refine W.skip ?_
      refine hK38 _ _ ?_; clear hK38
      refine W.seq_k fun K53 hK53 => ?_
      refine W.seq_k fun K54 hK54 => ?_
      refine W.regionT [(0, true), (1, true), (2, true)] (by kernel_rfl) ?_
      refine Plan.move_slice rfl rfl ?_
      refine Plan.len FKdfPads.isl22 rfl rfl ?_
      refine Plan.cmpP (a := (((x_14.length : Nat) : Int) : Int)) (b := (64 : Int)) (p := 64 < x_14.length) rfl rfl rfl rfl icmp_gtN ?_
      refine Plan.nil ?_
      refine hK54 _ _ ?_; clear hK54
      by_cases hc55 : 64 < x_14.length
      ·
        replace hR := ifT hR hc55
        refine W.condT (congrArg Value.bool (decide_eq_true hc55)) ?_
        refine W.seq_k fun K56 hK56 => ?_
        refine W.regionT [(0, true), (1, false), (2, false), (3, false), (4, false)] (by kernel_rfl) ?_
        refine Plan.move_slice rfl rfl ?_
        refine Plan.buildSlice h51 (ps := [(1, fun i => .slice ((fun i => ([ay0_15] : List (Option Addr)).getD i none) i) ((fun i => ([x_14.length] : List Nat).getD i 0) i) ((fun i => ([cy0_17] : List Nat).getD i 0) i))]) FKdfPads.slu75 FKdfPads.sz22 FKdfPads.zv22 (by decide) (by decide) rfl rfl rfl (EffO.keep PIn.nil) fun b58 w58 hb58 h58 => ?_
        simp only [rngs, List.cons_append, List.nil_append] at h58
        obtain ⟨x_60, hr59, hR⟩ := hR
        refine Plan.call (vs := [.slice (some ⟨b58, 0, none⟩) 1 1]) rfl FKdfPads.call21 rfl (sha_Sum_ok (iG0 := iG0 + 4) hG0 (iG1 := iG1 + 4) hG1 (by exact (Bss.of 0 rfl rfl (fun i hi => match i, hi with | 0, _ => ⟨_, (hf18_0.app [_, _, _, _])⟩ | k + 1, hk => absurd hk (by omega)))) hr59 h58) ?_
        rintro _ w61 ⟨rfl, h61⟩
        refine ⟨_, rfl, .inl ⟨PIn.keep PIn.nil h61, ?_⟩⟩
        refine Plan.alloc h61 rfl FKdfPads.z32 PIn.nil fun b62 w62 hb62 h62 => ?_
        simp only [rngs, Nat.zero_add, Nat.reduceAdd, List.cons_append, List.nil_append] at h62
        refine Plan.storeA (f' := fun q => VU .u8 (x_60 q)) h62 0 rfl rfl rfl rfl (fun _ _ => rfl) FKdfPads.sz32 rfl fun w63 h63 => ?_
        simp only [List.cons_append, List.nil_append, List.set_cons_zero, List.set_cons_succ] at h63
        refine Plan.nil ?_
        refine hK56 _ _ ?_; clear hK56
        refine W.seq_k fun K64 hK64 => ?_
        refine W.regionD FKdfPads.mixed [(0, true), (1, true), (4, true), (2, false), (3, false), (5, true), (6, true)] (by kernel_rfl) ?_
        have h65 := h63.drew
        refine Plan.slArrO (lo := 0) (hi := 32) (m := 32) (c := 32) (o' := 0) FKdfPads.arr32 rfl rfl rfl rfl (by omega) (by omega) (by omega) (by omega) ?_
        refine Plan.move_slice rfl rfl ?_
        refine Plan.loadA1 h65 3 rfl rfl rfl FKdfPads.agg32 ?_
        refine Plan.buildSlice h65 (ps := [(1, fun i => .slice ((fun i => ([ay0_21] : List (Option Addr)).getD i none) i) ((fun i => ([x_20.length] : List Nat).getD i 0) i) ((fun i => ([cy0_23] : List Nat).getD i 0) i))]) FKdfPads.slu75 FKdfPads.sz22 FKdfPads.zv22 (by decide) (by decide) rfl rfl rfl (EffO.keep (PIn.cons 3 rfl PIn.nil)) fun b67 w67 hb67 h67 => ?_
        simp only [rngs, List.cons_append, List.nil_append] at h67
        obtain ⟨x_69, hr68, hR⟩ := hR
        refine Plan.call (vs := [.slice (some ⟨b62, 0, none⟩) 32 32, .slice (some ⟨b67, 0, none⟩) 1 1]) rfl FKdfPads.call36 rfl (kdf_Mac_ok (iG0 := iG0 + 6) hG0 (iG1 := iG1 + 6) hG1 (by exact (Bx.arr0 (n := 32) (cc := 32) 1 rfl (by omega) (by omega))) (by exact (Bss.of 0 rfl rfl (fun i hi => match i, hi with | 0, _ => ⟨_, (hf24_0.app [_, _, _, _, _, _])⟩ | k + 1, hk => absurd hk (by omega)))) hr68 h67) ?_
        rintro _ w70 ⟨rfl, h70⟩
        refine ⟨_, rfl, .inl ⟨PIn.keep (PIn.cons 4 rfl PIn.nil) h70, ?_⟩⟩
        refine Plan.eqArrV (b := (eqB 32 x_69 x_34)) FKdfPads.arrI32 rfl rfl rfl rfl ?_
        refine Plan.assign_bool rfl rfl ?_
        refine Plan.nil ?_
        refine hK64 _ _ ?_; clear hK64
        refine W.ret (thenR_ret (finR_ret ?_))
        have h71 := St.pickT (C := [_, _, _, _, _, _]) h70 [] (by decide)
        simp only [pick, List.filterMap_cons, List.filterMap_nil, List.getElem?_cons_zero, List.getElem?_cons_succ, List.cons_append, List.nil_append] at h71
        subst r
        refine RetOk.mk (.tmp_bool rfl .nil) ?_
        exact ⟨rfl, h71⟩
      ·
        replace hR := ifF hR hc55
        refine W.condF (congrArg Value.bool (decide_eq_false hc55)) ?_
        refine W.skip ?_
        refine hK53 _ _ ?_; clear hK53
        refine W.seq_k fun K72 hK72 => ?_
        refine W.regionT [(0, true), (1, false), (2, true), (3, true), (4, true), (5, true), (6, false), (7, false), (8, true)] (by kernel_rfl) ?_
        refine Plan.move_slice rfl rfl ?_
        have h73 := h51.nilR
        obtain ⟨hc75, hR⟩ := hR
        refine Plan.appendO (X := ([] : List Byte)) (Y := x_14) h73 0 Ow.nil FKdfPads.el22 FKdfPads.sl22 rfl rfl rfl rfl (hf18_0.app [_, _, _, _]) hc75 (fun _ => EffO.keep PIn.nil) fun a74 pb74 cap74 F74 w74 ho74 h74 => ?_
        simp only [List.cons_append, List.nil_append, List.set_cons_zero, List.set_cons_succ] at h74
        refine Plan.move_int rfl rfl ?_
        refine Plan.move_slice rfl rfl ?_
        refine Plan.len FKdfPads.isl22 rfl rfl ?_
        refine Plan.subN (a := 65) (b := x_14.length) rfl rfl rfl (by omega) ?_
        obtain ⟨x_77, hr76, hR⟩ := hR
        refine Plan.call (vs := [.int .i64 zeros2, VN (65 - x_14.length)]) rfl FKdfPads.call34 rfl (lethelaw03_rest_ok  hr76 h74) ?_
        rintro _ w78 ⟨rfl, h78⟩
        refine ⟨_, rfl, .inl ⟨PIn.keep PIn.nil h78, ?_⟩⟩
        obtain ⟨hc79, hR⟩ := hR
        obtain ⟨hc81, hR⟩ := hR
        refine Plan.appendZ (X := (([] : List Byte) ++ x_14)) (m := x_77.toNat) h78 0 ho74 FKdfPads.el22 FKdfPads.u3 FKdfPads.str9 rfl rfl (congrArg (Value.int .i64) (Int.toNat_of_nonneg hc79).symm) rfl hc81 (fun _ => EffO.keep PIn.nil) fun a80 pb80 cap80 F80 w80 ho80 h80 => ?_
        simp only [List.cons_append, List.nil_append, List.set_cons_zero, List.set_cons_succ] at h80
        refine Plan.assign_slice rfl rfl ?_
        refine Plan.nil ?_
        refine hK72 _ _ ?_; clear hK72
        refine W.seq_k fun K82 hK82 => ?_
        refine W.regionF FKdfPads.mixed (.fork [(0, true), (1, true), (4, true), (2, false), (3, false), (5, true), (6, true), (7, true), (10, true)] (.line [(8, false), (9, false), (11, false), (12, true), (13, true), (14, true)]) (.line [(9, false), (8, false), (11, false), (12, true), (13, true), (14, true)])) (by kernel_rfl) (PlanT.toFork ?_)
        have h83 := h80.drew
        refine Plan.move_slice rfl rfl ?_
        refine Plan.move_slice rfl rfl ?_
        refine Plan.loadA1 h83 2 rfl rfl rfl FKdfPads.agg32 ?_
        refine Plan.buildSlice h83 (ps := [(1, fun i => .slice ((fun i => ([ay0_21] : List (Option Addr)).getD i none) i) ((fun i => ([x_20.length] : List Nat).getD i 0) i) ((fun i => ([cy0_23] : List Nat).getD i 0) i))]) FKdfPads.slu75 FKdfPads.sz22 FKdfPads.zv22 (by decide) (by decide) rfl rfl rfl (EffO.keep (PIn.cons 2 rfl PIn.nil)) fun b85 w85 hb85 h85 => ?_
        simp only [rngs, List.cons_append, List.nil_append] at h85
        obtain ⟨x_87, hr86, hR⟩ := hR
        refine Plan.call (vs := [.slice a80 (((([] : List Byte) ++ x_14) ++ List.replicate x_77.toNat 0#8).length) cap80, .slice (some ⟨b85, 0, none⟩) 1 1]) rfl FKdfPads.call36 rfl (kdf_Mac_ok (iG0 := iG0 + 5) hG0 (iG1 := iG1 + 5) hG1 (by exact (ho80.bx 1 rfl)) (by exact (Bss.of 0 rfl rfl (fun i hi => match i, hi with | 0, _ => ⟨_, (hf24_0.app [_, _, _, _, _])⟩ | k + 1, hk => absurd hk (by omega)))) hr86 h85) ?_
        rintro _ w88 ⟨rfl, h88⟩
        refine ⟨_, rfl, .inl ⟨PIn.keep (PIn.cons 3 rfl PIn.nil) h88, ?_⟩⟩
        by_cases hc89 : (eqB 32 x_87 x_34) = true
        ·
          replace hR := ifT hR hc89
          refine Plan.eqArrV (b := true) FKdfPads.arrI32 rfl rfl rfl hc89 ?_
          refine Plan.move_bool rfl rfl ?_
          refine Plan.move_slice rfl rfl ?_
          refine Plan.move_slice rfl rfl ?_
          obtain ⟨x_91, hr90, hR⟩ := hR
          obtain ⟨x_95, hr94, hR⟩ := hR
          refine Plan.forked ?_ ?_
          ·
            refine PlanT.toLine ?_
            refine Plan.call (vs := [.slice none 0 0, .slice ay0_21 x_20.length cy0_23]) rfl FKdfPads.call37 rfl (kdf_Extract_ok (iG0 := iG0 + 5) hG0 (iG1 := iG1 + 5) hG1 (by exact (Bx.nil 0)) (hf24_0.app [_, _, _, _, _]) hr90 h88) ?_
            rintro _ w99 ⟨rfl, h99⟩
            refine ⟨_, rfl, .inl ⟨PIn.keep (PIn.cons 3 rfl PIn.nil) h99, ?_⟩⟩
            refine Plan.makeO (len := 32) (c := 32) h99 FKdfPads.el22 rfl rfl rfl (by omega) (by omega) (fun _ => EffO.keep (PIn.cons 4 rfl PIn.nil)) fun b100 w100 hb100 ho100 h100 => ?_
            refine Plan.call (vs := [.slice (some ⟨b100, 0, none⟩) ((List.replicate 32 0#8).length) 32, .slice ay0_21 x_20.length cy0_23]) rfl FKdfPads.call37 rfl (kdf_Extract_ok (iG0 := iG0 + 6) hG0 (iG1 := iG1 + 6) hG1 (by exact (ho100.bx 0 rfl)) (hf24_0.app [_, _, _, _, _, _]) hr94 h100) ?_
            rintro _ w103 ⟨rfl, h103⟩
            refine ⟨_, rfl, .inl ⟨PIn.keep (PIn.cons 4 rfl PIn.nil) h103, ?_⟩⟩
            refine Plan.eqArrV (b := (eqB 32 x_91 x_95)) FKdfPads.arrI32 rfl rfl rfl rfl ?_
            refine Plan.pickTb rfl rfl rfl ?_
            refine Plan.assign_bool rfl rfl ?_
            refine Plan.nil ?_
            refine hK82 _ _ ?_; clear hK82
            refine W.ret (finR_ret ?_)
            have h104 := St.pickT (C := [_, _, _, _, _, _]) h103 [] (by decide)
            simp only [pick, List.filterMap_cons, List.filterMap_nil, List.getElem?_cons_zero, List.getElem?_cons_succ, List.cons_append, List.nil_append] at h104
            subst r
            refine RetOk.mk (.tmp_bool rfl .nil) ?_
            exact ⟨rfl, h104⟩
          ·
            refine PlanT.toLine ?_
            refine Plan.makeO (len := 32) (c := 32) h88 FKdfPads.el22 rfl rfl rfl (by omega) (by omega) (fun _ => EffO.keep (PIn.cons 4 rfl PIn.nil)) fun b105 w105 hb105 ho105 h105 => ?_
            refine Plan.call (vs := [.slice none 0 0, .slice ay0_21 x_20.length cy0_23]) rfl FKdfPads.call37 rfl (kdf_Extract_ok (iG0 := iG0 + 6) hG0 (iG1 := iG1 + 6) hG1 (by exact (Bx.nil 0)) (hf24_0.app [_, _, _, _, _, _]) hr90 h105) ?_
            rintro _ w108 ⟨rfl, h108⟩
            refine ⟨_, rfl, .inl ⟨PIn.keep (PIn.cons 4 rfl PIn.nil) h108, ?_⟩⟩
            refine Plan.call (vs := [.slice (some ⟨b105, 0, none⟩) ((List.replicate 32 0#8).length) 32, .slice ay0_21 x_20.length cy0_23]) rfl FKdfPads.call37 rfl (kdf_Extract_ok (iG0 := iG0 + 6) hG0 (iG1 := iG1 + 6) hG1 (by exact (ho105.bx 0 rfl)) (hf24_0.app [_, _, _, _, _, _]) hr94 h108) ?_
            rintro _ w111 ⟨rfl, h111⟩
            refine ⟨_, rfl, .inl ⟨PIn.keep (PIn.cons 4 rfl PIn.nil) h111, ?_⟩⟩
            refine Plan.eqArrV (b := (eqB 32 x_91 x_95)) FKdfPads.arrI32 rfl rfl rfl rfl ?_
            refine Plan.pickTb rfl rfl rfl ?_
            refine Plan.assign_bool rfl rfl ?_
            refine Plan.nil ?_
            refine hK82 _ _ ?_; clear hK82
            refine W.ret (finR_ret ?_)
            have h112 := St.pickT (C := [_, _, _, _, _, _]) h111 [] (by decide)
            simp only [pick, List.filterMap_cons, List.filterMap_nil, List.getElem?_cons_zero, List.getElem?_cons_succ, List.cons_append, List.nil_append] at h112
            subst r
            refine RetOk.mk (.tmp_bool rfl .nil) ?_
            exact ⟨rfl, h112⟩
        ·
          replace hR := ifF hR hc89
          refine Plan.eqArrV (b := false) FKdfPads.arrI32 rfl rfl rfl (Bool.eq_false_iff.2 hc89) ?_
          refine Plan.move_bool rfl rfl ?_
          refine Plan.passed rfl ?_
          refine Plan.passed rfl ?_
          refine Plan.forked ?_ ?_
          ·
            refine PlanT.toLine ?_
            refine Plan.passed rfl ?_
            refine Plan.passed rfl ?_
            refine Plan.passed rfl ?_
            refine Plan.passed rfl ?_
            refine Plan.pickFb rfl rfl rfl ?_
            refine Plan.assign_bool rfl rfl ?_
            refine Plan.nil ?_
            refine hK82 _ _ ?_; clear hK82
            refine W.ret (finR_ret ?_)
            have h113 := St.pickT (C := [_, _, _, _, _]) h88 [] (by decide)
            simp only [pick, List.filterMap_cons, List.filterMap_nil, List.getElem?_cons_zero, List.getElem?_cons_succ, List.cons_append, List.nil_append] at h113
            subst r
            refine RetOk.mk (.tmp_bool rfl .nil) ?_
            exact ⟨rfl, h113⟩
          ·
            refine PlanT.toLine ?_
            refine Plan.passed rfl ?_
            refine Plan.passed rfl ?_
            refine Plan.passed rfl ?_
            refine Plan.passed rfl ?_
            refine Plan.pickFb rfl rfl rfl ?_
            refine Plan.assign_bool rfl rfl ?_
            refine Plan.nil ?_
            refine hK82 _ _ ?_; clear hK82
            refine W.ret (finR_ret ?_)
            have h114 := St.pickT (C := [_, _, _, _, _]) h88 [] (by decide)
            simp only [pick, List.filterMap_cons, List.filterMap_nil, List.getElem?_cons_zero, List.getElem?_cons_succ, List.cons_append, List.nil_append] at h114
            subst r
            refine RetOk.mk (.tmp_bool rfl .nil) ?_
            exact ⟨rfl, h114⟩
    ·
      replace hR := ifF hR hc52
      refine W.condT (congrArg Value.bool (congrArg Bool.not (Bool.eq_false_iff.2 hc52))) ?_
      refine W.seq_k fun K115 hK115 => ?_
      refine W.regionT [(0, true)] (by kernel_rfl) ?_
      refine Plan.assign_bool rfl rfl ?_
      refine Plan.nil ?_
      refine hK115 _ _ ?_; clear hK115
      refine W.ret (thenR_ret (finR_ret ?_))
      have h116 := St.pickT (C := [_, _, _]) h51 [] (by decide)
      simp only [pick, List.filterMap_cons, List.filterMap_nil, List.getElem?_cons_zero, List.getElem?_cons_succ, List.cons_append, List.nil_append] at h116
      subst r
      refine RetOk.mk (.tmp_bool rfl .nil) ?_
      exact ⟨rfl, h116⟩
  ·
    replace hR := ifF hR hc11
    refine W.condT (congrArg Value.bool (congrArg Bool.not (Bool.eq_false_iff.2 hc11))) ?_
    refine W.seq_k fun K117 hK117 => ?_
    refine W.regionT [(0, true)] (by kernel_rfl) ?_
    refine Plan.assign_bool rfl rfl ?_
    refine Plan.nil ?_
    refine hK117 _ _ ?_; clear hK117
    refine W.ret (thenR_ret (finR_ret ?_))
    subst r
    refine RetOk.mk (.tmp_bool rfl .nil) ?_
    exact ⟨rfl, h10⟩

end Go.Proofs.YtjdgbahjpdopbaaDoor
