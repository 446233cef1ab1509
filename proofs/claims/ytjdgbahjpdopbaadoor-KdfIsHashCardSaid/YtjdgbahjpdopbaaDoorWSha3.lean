/-
  WALKS, printed by this session's own generator (gen.py).
-/
import Derived.Test.YtjdgbahjpdopbaaDoorProg
import Derived.Test.YtjdgbahjpdopbaaDoorWSha2
namespace Go.Proofs.YtjdgbahjpdopbaaDoor
set_option linter.unusedSimpArgs false
set_option linter.unusedVariables false
set_option linter.unusedSectionVars false
open Go Go.LW
theorem FS3.z32 : zeroIs Tryd.prog 32 [(32, fun _ => VU .u8 0#8)] := zeroIs_agg (by kernel_rfl)
theorem FS3.call30 : callB Tryd.prog 30 = true := by kernel_rfl
theorem FS3.fld96_2 : fieldB Tryd.prog 96 2 72 = true := by kernel_rfl
theorem FS3.sc3 : scalarT Tryd.prog 3 = true := by kernel_rfl
theorem FS3.u97 : Tryd.prog.underlying 97 = some (.int .u64) := by kernel_rfl
theorem FS3.some3 : (Tryd.prog.underlying 3).isSome = true := by kernel_rfl
theorem FS3.zv5 : (Tryd.prog.info? 5).bind (·.zero) = some (VU .u8 0#8) := by kernel_rfl
theorem FS3.slu22 : Tryd.prog.underlying 22 = some (.slice 5) := by kernel_rfl
theorem FS3.sz5 : szT Tryd.prog 5 1 = true := by kernel_rfl
theorem FS3.call25 : callB Tryd.prog 25 = true := by kernel_rfl
theorem FS3.u5 : Tryd.prog.underlying 5 = some (.int .u8) := by kernel_rfl
theorem FS3.some97 : (Tryd.prog.underlying 97).isSome = true := by kernel_rfl
theorem FS3.fld96_0 : fieldB Tryd.prog 96 0 0 = true := by kernel_rfl
theorem FS3.agg27 : aggT Tryd.prog 27 8 = true := by kernel_rfl
theorem FS3.isarr27 : Tryd.prog.underlying 27 = some (.array 8 26) := by kernel_rfl
theorem FS3.sz26 : szT Tryd.prog 26 1 = true := by kernel_rfl
theorem FS3.sc26 : scalarT Tryd.prog 26 = true := by kernel_rfl
theorem FS3.some26 : (Tryd.prog.underlying 26).isSome = true := by kernel_rfl
theorem FS3.arr32 : arrB Tryd.prog 32 32 1 = true := by kernel_rfl
theorem FS3.agg32 : aggT Tryd.prog 32 32 = true := by kernel_rfl
theorem FS3.sz32 : szT Tryd.prog 32 32 = true := by kernel_rfl
theorem FS3.call23 : callB Tryd.prog 23 = true := by kernel_rfl
theorem FS3.isl75 : ∃ el, Tryd.prog.underlying 75 = some (.slice el) := ⟨22, by kernel_rfl⟩
theorem FS3.sl75 : slB Tryd.prog 75 1 = true := by kernel_rfl
theorem FS3.sc22 : scalarT Tryd.prog 22 = true := by kernel_rfl
theorem FS3.call27 : callB Tryd.prog 27 = true := by kernel_rfl

set_option maxRecDepth 8000 in
set_option maxHeartbeats 1000000 in
theorem sum_spec {B : Nat} {w0 w : World} {L : List Rg} {KK H0 : Nat → BitVec 32} {iG : Nat} (hG : L[iG]? = some ⟨some 0, 0, 64, fun q => VU .u32 (KK q), false⟩) {N hb : Nat} {m : Nat → BitVec 8} {st : Nat → BitVec 32} {blk : Nat → BitVec 8} (h : St B w0 (⟨some hb, 0, 8, fun q => VU .u32 (st q), true⟩ :: ⟨some hb, 8, 64, fun q => VU .u8 (blk q), true⟩ :: ⟨some hb, 72, 1, fun _ => VN (N), true⟩ :: L) w) (hI : HashIs KK H0 N m st blk) (hN : N < 9223372036854770000) :
    Calls Tryd.prog 27 #[.pointer (some ⟨hb, 0, none⟩)] w fun e w' => e = .returned (AG [(32, fun q => VU .u8 (sha KK H0 m N q))]) ∧ St B w0 (⟨some hb, 0, 8, fun q => VU .u32 (st q), true⟩ :: ⟨some hb, 8, 64, fun q => VU .u8 (blk q), true⟩ :: ⟨some hb, 72, 1, fun _ => VN (N), true⟩ :: L) w' := by
  refine W.enter 78 Tryd.func27 rfl rfl rfl ?_
  have hxl : xlen N ≤ N + 64 := by unfold xlen; omega
  refine W.seq_k fun K1 hK1 => ?_
  refine W.regionT [(0, false)] (by kernel_rfl) ?_
  refine Plan.alloc h rfl FS3.z32 PIn.nil fun b1 w1 hb1 h1 => ?_
  simp only [rngs, Nat.zero_add, Nat.reduceAdd, List.cons_append, List.nil_append] at h1
  refine Plan.nil ?_
  refine hK1 _ _ ?_; clear hK1
  refine W.seq_k fun K2 hK2 => ?_
  refine W.regionT [(0, true), (1, false), (2, true)] (by kernel_rfl) ?_
  refine Plan.move_ptr rfl rfl ?_
  have h2 := St.pickT (C := [_, _, _, _]) h1 [1, 2, 3, 0] (by decide)
  simp only [pick, List.filterMap_cons, List.filterMap_nil, List.getElem?_cons_zero, List.getElem?_cons_succ, List.cons_append, List.nil_append] at h2
  refine Plan.callE rfl FS3.call30 rfl (copy_spec h2) (fun b => PIn.nil) fun b3 w3 h3 hb3 => ?_
  refine Plan.assign_ptr rfl rfl ?_
  refine Plan.nil ?_
  refine hK2 _ _ ?_; clear hK2
  refine W.seq_k fun K3 hK3 => ?_
  refine W.regionT [(0, true), (1, true), (2, true), (3, true), (4, true), (5, true), (6, true)] (by kernel_rfl) ?_
  refine Plan.move_ptr rfl rfl ?_
  refine Plan.nilCheck rfl rfl ?_
  refine Plan.fieldAddr 72 FS3.fld96_2 rfl rfl ?_
  refine Plan.load0 h3 5 rfl rfl rfl (by omega) FS3.sc3 ?_
  refine Plan.convNU .u64 FS3.u97 FS3.some3 rfl rfl ?_
  refine Plan.mulU .u64 (X := 8#64) rfl rfl rfl ?_
  refine Plan.assign_int rfl rfl ?_
  refine Plan.nil ?_
  refine hK3 _ _ ?_; clear hK3
  refine W.seq_k fun K4 hK4 => ?_
  refine W.regionT [(0, true), (1, false), (2, false)] (by kernel_rfl) ?_
  refine Plan.move_ptr rfl rfl ?_
  refine Plan.buildSlice h3 (ps := [(1, fun _ => VU .u8 128#8)]) FS3.slu22 FS3.sz5 FS3.zv5 (by decide) (by decide) rfl rfl rfl (EffO.keep PIn.nil) fun b4 w4 hb4 h4 => ?_
  simp only [rngs, List.cons_append, List.nil_append] at h4
  have h5 := St.pickT (C := [_, _, _, _, _, _, _, _]) h4 [1, 2, 3, 0, 4, 5, 6, 7] (by decide)
  simp only [pick, List.filterMap_cons, List.filterMap_nil, List.getElem?_cons_zero, List.getElem?_cons_succ, List.cons_append, List.nil_append] at h5
  refine Plan.callE rfl FS3.call25 rfl (write_spec h5 (iG := iG + 5) hG (iS := 0) rfl (fun _ => ⟨_, rfl, rfl⟩) (js := 0) rfl (by omega) (by omega) (by omega) hI) (fun sb => PIn.nil) fun sb6 w6 h6 hI6 => ?_
  have hJ := hI6.congr (pad1_start m N _ rfl)
  clear hI6
  refine Plan.nil ?_
  refine hK4 _ _ ?_; clear hK4
  refine W.seq_k fun K5 hK5 => ?_
  refine W.block ?_
  have h7 := St.pickT (C := [_, _, _, _, _, _, _, _]) h6 [0, 1, 2, 7, 4, 5, 6] (by decide)
  simp only [pick, List.filterMap_cons, List.filterMap_nil, List.getElem?_cons_zero, List.getElem?_cons_succ, List.cons_append, List.nil_append] at h7
  refine W.loop (fun mR e w => ∃ (x : Nat) (st' : Nat → BitVec 32) (blk' : Nat → BitVec 8), mR = (120 - x % 64) % 64 ∧ (N + 1 ≤ x) ∧ (x + (120 - x % 64) % 64 = xlen N) ∧ (HashIs KK H0 x (pad1 m N) st' blk') ∧ EnvHas e [(2, .pointer (some ⟨b1, 0, none⟩)), (3, .pointer (some ⟨b3, 0, none⟩)), (4, VU .u64 (lenB N))] ∧ St B w0 (⟨some b3, 0, 8, fun q => VU .u32 (st' q), true⟩ :: ⟨some b3, 8, 64, fun q => VU .u8 (blk' q), true⟩ :: ⟨some b3, 72, 1, fun _ => VN (x), true⟩ :: ⟨some b1, 0, 32, fun _ => VU .u8 0#8, true⟩ :: ⟨some hb, 0, 8, fun q => VU .u32 (st q), true⟩ :: ⟨some hb, 8, 64, fun q => VU .u8 (blk q), true⟩ :: ⟨some hb, 72, 1, fun _ => VN (N), true⟩ :: L) w) (_) ⟨N + 1, _, _, rfl, by omega, by unfold xlen; omega, hJ, (EnvHas.cons rfl (EnvHas.cons rfl (EnvHas.cons rfl EnvHas.nil))), h7⟩ ?_
  rintro _ ev8 wl8 ⟨x, st', blk', rfl, hx, hx2, hI', he8, h8⟩
  obtain ⟨ev8, rfl⟩ := he8.open
  refine W.seq_k fun K6 hK6 => ?_
  refine W.seq_k fun K7 hK7 => ?_
  refine W.regionT [(0, true), (1, true), (2, true), (3, true), (4, true), (5, true)] (by kernel_rfl) ?_
  refine Plan.move_ptr rfl rfl ?_
  refine Plan.nilCheck rfl rfl ?_
  refine Plan.fieldAddr 72 FS3.fld96_2 rfl rfl ?_
  refine Plan.load0 h8 2 rfl rfl rfl (by omega) FS3.sc3 ?_
  refine Plan.remN (b := 64) rfl rfl rfl (by omega) ?_
  refine Plan.neS rfl rfl rfl ?_ ?_
  ·
    intro hc9
    refine Plan.nil ?_
    refine hK7 _ _ ?_; clear hK7
    refine W.condT rfl ?_
    refine W.skip ?_
    refine hK6 _ _ ?_; clear hK6
    refine W.block ?_
    refine W.regionT [(0, true), (1, false), (2, false)] (by kernel_rfl) ?_
    refine Plan.move_ptr rfl rfl ?_
    refine Plan.buildSlice h8 (ps := [(1, fun _ => VU .u8 0#8)]) FS3.slu22 FS3.sz5 FS3.zv5 (by decide) (by decide) rfl rfl rfl (EffO.keep PIn.nil) fun b10 w10 hb10 h10 => ?_
    simp only [rngs, List.cons_append, List.nil_append] at h10
    have h11 := St.pickT (C := [_, _, _, _, _, _, _, _]) h10 [1, 2, 3, 0, 4, 5, 6, 7] (by decide)
    simp only [pick, List.filterMap_cons, List.filterMap_nil, List.getElem?_cons_zero, List.getElem?_cons_succ, List.cons_append, List.nil_append] at h11
    refine Plan.callE rfl FS3.call25 rfl (write_spec h11 (iG := iG + 5) hG (iS := 0) rfl (fun _ => ⟨_, rfl, rfl⟩) (js := 0) rfl (by omega) (by omega) (by omega) hI') (fun sb => PIn.nil) fun sb12 w12 h12 hI12 => ?_
    have hJ := hI12.congr (pad1_next m N x _ rfl (by omega))
    clear hI12
    refine Plan.nil ?_
    refine blockR_norm ?_
    refine thenR_norm ?_
    have h13 := St.pickT (C := [_, _, _, _, _, _, _, _]) h12 [0, 1, 2, 4, 5, 6, 7] (by decide)
    simp only [pick, List.filterMap_cons, List.filterMap_nil, List.getElem?_cons_zero, List.getElem?_cons_succ, List.cons_append, List.nil_append] at h13
    refine ⟨_, ?_, x + 1, _, _, rfl, by omega, by omega, hJ, (EnvHas.cons rfl (EnvHas.cons rfl (EnvHas.cons rfl EnvHas.nil))), h13⟩
    omega
  ·
    intro hc14
    have hxe : x = xlen N := by omega
    subst hxe
    refine Plan.nil ?_
    refine hK7 _ _ ?_; clear hK7
    refine W.condF rfl ?_
    refine W.exit (thenR_exit (thenR_exit (blockR_here ?_)))
    refine hK5 _ _ ?_; clear hK5
    refine W.seq_k fun K8 hK8 => ?_
    refine W.seq_k fun K9 hK9 => ?_
    refine W.regionT [(0, true)] (by kernel_rfl) ?_
    refine Plan.move_int rfl rfl ?_
    refine Plan.nil ?_
    refine hK9 _ _ ?_; clear hK9
    refine W.block ?_
    refine W.loop (fun mR e w => ∃ (t : Nat) (st' : Nat → BitVec 32) (blk' : Nat → BitVec 8), mR = 8 - t ∧ (t ≤ 8) ∧ (HashIs KK H0 (xlen N + t) (padf m N) st' blk') ∧ EnvHas e [(2, .pointer (some ⟨b1, 0, none⟩)), (3, .pointer (some ⟨b3, 0, none⟩)), (4, VU .u64 (lenB N)), (29, VN t)] ∧ St B w0 (⟨some b3, 0, 8, fun q => VU .u32 (st' q), true⟩ :: ⟨some b3, 8, 64, fun q => VU .u8 (blk' q), true⟩ :: ⟨some b3, 72, 1, fun _ => VN (xlen N + t), true⟩ :: ⟨some b1, 0, 32, fun _ => VU .u8 0#8, true⟩ :: ⟨some hb, 0, 8, fun q => VU .u32 (st q), true⟩ :: ⟨some hb, 8, 64, fun q => VU .u8 (blk q), true⟩ :: ⟨some hb, 72, 1, fun _ => VN (N), true⟩ :: L) w) (_) ⟨0, _, _, rfl, by omega, hI'.congr (padf_start m N), (EnvHas.cons rfl (EnvHas.cons rfl (EnvHas.cons rfl (EnvHas.cons rfl EnvHas.nil)))), h8⟩ ?_
    rintro _ ev15 wl15 ⟨t, st', blk', rfl, ht, hI', he15, h15⟩
    obtain ⟨ev15, rfl⟩ := he15.open
    refine W.seq_k fun K10 hK10 => ?_
    refine W.regionT [(0, true)] (by kernel_rfl) ?_
    refine Plan.ltS rfl rfl rfl ?_ ?_
    ·
      intro hc16
      refine Plan.nil ?_
      refine hK10 _ _ ?_; clear hK10
      refine W.seq_k fun K11 hK11 => ?_
      refine W.condT rfl ?_
      refine W.skip ?_
      refine hK11 _ _ ?_; clear hK11
      refine W.seq_k fun K12 hK12 => ?_
      refine W.block ?_
      refine W.seq_k fun K13 hK13 => ?_
      refine W.regionT [(0, true), (1, true)] (by kernel_rfl) ?_
      refine Plan.move_int rfl rfl ?_
      refine Plan.assign_int rfl rfl ?_
      refine Plan.nil ?_
      refine hK13 _ _ ?_; clear hK13
      refine W.regionT [(0, true), (1, true), (2, true), (3, true), (4, true), (5, true), (6, true), (7, false), (8, false)] (by kernel_rfl) ?_
      refine Plan.move_ptr rfl rfl ?_
      refine Plan.move_int rfl rfl ?_
      refine Plan.move_int rfl rfl ?_
      refine Plan.mulN (a := 8) rfl rfl rfl (by omega) ?_
      refine Plan.subN (a := 56) rfl rfl rfl (by omega) ?_
      refine Plan.shrU .u64 rfl rfl rfl ?_
      refine Plan.convUU .u8 FS3.u5 FS3.some97 rfl rfl ?_
      refine Plan.buildSlice h15 (ps := [(1, fun _ => VU .u8 _)]) FS3.slu22 FS3.sz5 FS3.zv5 (by decide) (by decide) rfl rfl rfl (EffO.keep PIn.nil) fun b17 w17 hb17 h17 => ?_
      simp only [rngs, List.cons_append, List.nil_append] at h17
      have h18 := St.pickT (C := [_, _, _, _, _, _, _, _]) h17 [1, 2, 3, 0, 4, 5, 6, 7] (by decide)
      simp only [pick, List.filterMap_cons, List.filterMap_nil, List.getElem?_cons_zero, List.getElem?_cons_succ, List.cons_append, List.nil_append] at h18
      refine Plan.callE rfl FS3.call25 rfl (write_spec h18 (iG := iG + 5) hG (iS := 0) rfl (fun _ => ⟨_, rfl, rfl⟩) (js := 0) rfl (by omega) (by omega) (by omega) hI') (fun sb => PIn.nil) fun sb19 w19 h19 hI19 => ?_
      have hJ := hI19.congr (padf_next m N t _ rfl)
      clear hI19
      refine Plan.nil ?_
      refine blockR_norm ?_
      refine hK12 _ _ ?_; clear hK12
      refine W.regionT [(0, true), (1, true)] (by kernel_rfl) ?_
      refine Plan.addN (b := 1) rfl rfl rfl (by omega) ?_
      refine Plan.move_int rfl rfl ?_
      refine Plan.nil ?_
      refine thenR_norm ?_
      have h20 := St.pickT (C := [_, _, _, _, _, _, _, _]) h19 [0, 1, 2, 4, 5, 6, 7] (by decide)
      simp only [pick, List.filterMap_cons, List.filterMap_nil, List.getElem?_cons_zero, List.getElem?_cons_succ, List.cons_append, List.nil_append] at h20
      refine ⟨_, ?_, t + 1, _, _, rfl, by omega, hJ, (EnvHas.cons rfl (EnvHas.cons rfl (EnvHas.cons rfl (EnvHas.cons rfl EnvHas.nil)))), h20⟩
      omega
    ·
      intro hc21
      obtain rfl : t = 8 := by omega
      refine Plan.nil ?_
      refine hK10 _ _ ?_; clear hK10
      refine W.seq_k fun K14 hK14 => ?_
      refine W.condF rfl ?_
      refine W.exit (thenR_exit (thenR_exit (blockR_here ?_)))
      refine hK8 _ _ ?_; clear hK8
      refine W.seq_k fun K15 hK15 => ?_
      refine W.regionT [(0, false)] (by kernel_rfl) ?_
      refine Plan.alloc h15 rfl FS3.z32 PIn.nil fun b22 w22 hb22 h22 => ?_
      simp only [rngs, Nat.zero_add, Nat.reduceAdd, List.cons_append, List.nil_append] at h22
      refine Plan.nil ?_
      refine hK15 _ _ ?_; clear hK15
      refine W.seq_k fun K16 hK16 => ?_
      refine W.seq_k fun K17 hK17 => ?_
      refine W.regionT [(0, true), (1, true), (2, true), (3, true), (4, true)] (by kernel_rfl) ?_
      refine Plan.move_ptr rfl rfl ?_
      refine Plan.nilCheck rfl rfl ?_
      refine Plan.fieldAddr0 FS3.fld96_0 rfl rfl ?_
      refine Plan.loadA1 h22 1 rfl rfl rfl FS3.agg27 ?_
      refine Plan.move_int rfl rfl ?_
      refine Plan.nil ?_
      refine hK17 _ _ ?_; clear hK17
      refine W.block ?_
      refine W.loop (fun mR e w => ∃ t : Nat, mR = 8 - t ∧ (t ≤ 8) ∧ EnvHas e [(2, .pointer (some ⟨b1, 0, none⟩)), (6, .pointer (some ⟨b22, 0, none⟩)), (46, VN t), (45, AG [(8, fun q => VU .u32 (st' q))])] ∧ St B w0 (⟨some b22, 0, 32, fun q => VU .u8 (dgb st' t q), true⟩ :: ⟨some b3, 0, 8, fun q => VU .u32 (st' q), true⟩ :: ⟨some b3, 8, 64, fun q => VU .u8 (blk' q), true⟩ :: ⟨some b3, 72, 1, fun _ => VN (xlen N + 8), true⟩ :: ⟨some b1, 0, 32, fun _ => VU .u8 0#8, true⟩ :: ⟨some hb, 0, 8, fun q => VU .u32 (st q), true⟩ :: ⟨some hb, 8, 64, fun q => VU .u8 (blk q), true⟩ :: ⟨some hb, 72, 1, fun _ => VN (N), true⟩ :: L) w) (_) ⟨0, rfl, by omega, (EnvHas.cons rfl (EnvHas.cons rfl (EnvHas.cons rfl (EnvHas.cons rfl EnvHas.nil)))), h22⟩ ?_
      rintro _ ev23 wl23 ⟨t, rfl, ht, he23, h23⟩
      obtain ⟨ev23, rfl⟩ := he23.open
      refine W.seq_k fun K18 hK18 => ?_
      refine W.regionT [(0, true)] (by kernel_rfl) ?_
      refine Plan.ltS rfl rfl rfl ?_ ?_
      ·
        intro hc24
        refine Plan.nil ?_
        refine hK18 _ _ ?_; clear hK18
        refine W.seq_k fun K19 hK19 => ?_
        refine W.condT rfl ?_
        refine W.skip ?_
        refine hK19 _ _ ?_; clear hK19
        refine W.seq_k fun K20 hK20 => ?_
        refine W.block ?_
        refine W.seq_k fun K21 hK21 => ?_
        refine W.regionT [(0, true), (1, true), (2, true), (3, true)] (by kernel_rfl) ?_
        refine Plan.move_int rfl rfl ?_
        refine Plan.indexA FS3.isarr27 FS3.sz26 FS3.sc26 rfl rfl rfl (by omega) (by decide) ?_
        refine Plan.assign_int rfl rfl ?_
        refine Plan.assign_int rfl rfl ?_
        refine Plan.nil ?_
        refine hK21 _ _ ?_; clear hK21
        refine W.regionT [(0, true), (1, true), (2, true), (3, true), (4, true), (5, true), (6, true), (7, true), (8, true), (9, true), (10, true), (11, true), (12, true), (13, true), (14, true), (15, true), (16, true), (17, true), (18, true), (19, true), (20, true), (21, true), (22, true), (23, false), (24, true), (25, false), (26, true), (27, false), (28, true), (29, false)] (by kernel_rfl) ?_
        refine Plan.move_int rfl rfl ?_
        refine Plan.mulN (a := 4) rfl rfl rfl (by omega) ?_
        refine Plan.move_int rfl rfl ?_
        refine Plan.mulN (a := 4) rfl rfl rfl (by omega) ?_
        refine Plan.addN (b := 1) rfl rfl rfl (by omega) ?_
        refine Plan.move_int rfl rfl ?_
        refine Plan.mulN (a := 4) rfl rfl rfl (by omega) ?_
        refine Plan.addN (b := 2) rfl rfl rfl (by omega) ?_
        refine Plan.move_int rfl rfl ?_
        refine Plan.mulN (a := 4) rfl rfl rfl (by omega) ?_
        refine Plan.addN (b := 3) rfl rfl rfl (by omega) ?_
        refine Plan.move_int rfl rfl ?_
        refine Plan.shrU .u32 (c := 24) rfl rfl rfl ?_
        refine Plan.convUU .u8 FS3.u5 FS3.some26 rfl rfl ?_
        refine Plan.move_int rfl rfl ?_
        refine Plan.shrU .u32 (c := 16) rfl rfl rfl ?_
        refine Plan.convUU .u8 FS3.u5 FS3.some26 rfl rfl ?_
        refine Plan.move_int rfl rfl ?_
        refine Plan.shrU .u32 (c := 8) rfl rfl rfl ?_
        refine Plan.convUU .u8 FS3.u5 FS3.some26 rfl rfl ?_
        refine Plan.move_int rfl rfl ?_
        refine Plan.convUU .u8 FS3.u5 FS3.some26 rfl rfl ?_
        refine Plan.idxArr1 FS3.arr32 rfl rfl rfl (by omega) ?_
        refine Plan.storeU h23 0 rfl rfl rfl rfl (by omega) FS3.sz5 rfl fun w25 h25 => ?_
        simp only [List.set_cons_zero, List.set_cons_succ] at h25
        refine Plan.idxArr1 FS3.arr32 rfl rfl rfl (by omega) ?_
        refine Plan.storeU h25 0 rfl rfl rfl rfl (by omega) FS3.sz5 rfl fun w26 h26 => ?_
        simp only [List.set_cons_zero, List.set_cons_succ] at h26
        refine Plan.idxArr1 FS3.arr32 rfl rfl rfl (by omega) ?_
        refine Plan.storeU h26 0 rfl rfl rfl rfl (by omega) FS3.sz5 rfl fun w27 h27 => ?_
        simp only [List.set_cons_zero, List.set_cons_succ] at h27
        refine Plan.idxArr1 FS3.arr32 rfl rfl rfl (by omega) ?_
        refine Plan.storeU h27 0 rfl rfl rfl rfl (by omega) FS3.sz5 rfl fun w28 h28 => ?_
        simp only [List.set_cons_zero, List.set_cons_succ] at h28
        refine Plan.nil ?_
        refine blockR_norm ?_
        refine hK20 _ _ ?_; clear hK20
        refine W.regionT [(0, true), (1, true)] (by kernel_rfl) ?_
        refine Plan.addN (b := 1) rfl rfl rfl (by omega) ?_
        refine Plan.move_int rfl rfl ?_
        refine Plan.nil ?_
        refine thenR_norm ?_
        refine ⟨_, ?_, t + 1, rfl, by omega, (EnvHas.cons rfl (EnvHas.cons rfl (EnvHas.cons rfl (EnvHas.cons rfl EnvHas.nil)))), h28⟩
        omega
      ·
        intro hc29
        obtain rfl : t = 8 := by omega
        refine Plan.nil ?_
        refine hK18 _ _ ?_; clear hK18
        refine W.seq_k fun K22 hK22 => ?_
        refine W.condF rfl ?_
        refine W.exit (thenR_exit (thenR_exit (blockR_here ?_)))
        refine hK16 _ _ ?_; clear hK16
        refine W.seq_k fun K23 hK23 => ?_
        refine W.regionT [(0, true), (1, false)] (by kernel_rfl) ?_
        refine Plan.loadA1 h23 0 rfl rfl rfl FS3.agg32 ?_
        refine Plan.storeA h23 4 rfl rfl rfl rfl (fun _ _ => rfl) FS3.sz32 rfl fun w30 h30 => ?_
        simp only [List.set_cons_zero, List.set_cons_succ] at h30
        refine Plan.nil ?_
        refine hK23 _ _ ?_; clear hK23
        refine W.ret (finR_ret ?_)
        refine RetOk.mk (.agg h30 rfl (.cons 4 rfl .nil) FS3.agg32 .nil) ?_
        exact ⟨congrArg _ hI'.digest, h30.tl.tl.tl.tl.tl⟩


theorem write_bs {B : Nat} {w0 w : World} {L : List Rg} {KK H0 : Nat → BitVec 32} {iG : Nat} (hG : L[iG]? = some ⟨some 0, 0, 64, fun q => VU .u32 (KK q), false⟩) {N len cc hb : Nat} {m M : Nat → BitVec 8} {st : Nat → BitVec 32} {blk : Nat → BitVec 8} {a : Option Addr}
    (h : St B w0 (⟨some hb, 0, 8, fun q => VU .u32 (st q), true⟩ :: ⟨some hb, 8, 64, fun q => VU .u8 (blk q), true⟩ :: ⟨some hb, 72, 1, fun _ => VN (N), true⟩ :: L) w) (hb' : Bs L a len cc M) (hN : N + len < 9223372036854775808) (hI : HashIs KK H0 N m st blk) :
    Calls Tryd.prog 25 #[.pointer (some ⟨hb, 0, none⟩), .slice a len cc] w fun e w' => ∃ sb : (Nat → BitVec 32) × (Nat → BitVec 8), e = .returned (.tuple #[]) ∧ St B w0 (⟨some hb, 0, 8, fun q => VU .u32 (sb.1 q), true⟩ :: ⟨some hb, 8, 64, fun q => VU .u8 (sb.2 q), true⟩ :: ⟨some hb, 72, 1, fun _ => VN (N + len), true⟩ :: L) w' ∧ HashIs KK H0 (N + len) (spl m N len M) sb.1 sb.2 := by
  obtain ⟨iS, offs, ms, js, os, ps, G, rw, h1, h2, h3, h4, h5, h6⟩ := hb'
  refine (write_spec h hG h1 h2 h3 h4 h5 hN hI).mono fun e w' => ?_
  rintro ⟨sb, he, hs, hi⟩
  refine ⟨sb, he, hs, hi.congr fun q hq => ?_⟩
  by_cases hq2 : N ≤ q
  · rw [spl_in _ _ _ _ _ (by omega), spl_in _ _ _ _ _ (by omega), h6 _ (by omega)]
  · rw [spl_out _ _ _ _ _ (by omega), spl_out _ _ _ _ _ (by omega)]

set_option maxRecDepth 8000 in
set_option maxHeartbeats 1000000 in
theorem sumall_spec {B : Nat} {w0 w : World} {L : List Rg} {KK H0 : Nat → BitVec 32} {iG : Nat} (hG : L[iG]? = some ⟨some 0, 0, 64, fun q => VU .u32 (KK q), false⟩) {i1 : Nat} (hH : L[i1]? = some ⟨some 1, 0, 8, fun q => VU .u32 (H0 q), false⟩) {iP np np' op cap : Nat} {ap pp : Option _} {pa : Nat → Option Addr} {pl pc : Nat → Nat} {M : Nat → Nat → BitVec 8} {rwp : Bool} (h : St B w0 L w)
    (hP : L[iP]? = some ⟨pp, op, np', fun i => .slice (pa i) (pl i) (pc i), rwp⟩) (hsl : SlV ap pp op np) (hnp : np ≤ np') (hnp2 : np < 9223372036854775807) (hPs : ∀ i, i < np → Bs L (pa i) (pl i) (pc i) (M i)) (hN : catN pl np < 9223372036854770000) :
    Calls Tryd.prog 21 #[.slice ap np cap] w fun e w' => e = .returned (AG [(32, fun q => VU .u8 (sha KK H0 (catM pl M np) (catN pl np) q))]) ∧ St B w0 L w' := by
  refine W.enter 19 Tryd.func21 rfl rfl rfl ?_
  refine W.seq_k fun K1 hK1 => ?_
  refine W.regionT [(0, false)] (by kernel_rfl) ?_
  refine Plan.alloc h rfl FS3.z32 PIn.nil fun b1 w1 hb1 h1 => ?_
  simp only [rngs, Nat.zero_add, Nat.reduceAdd, List.cons_append, List.nil_append] at h1
  refine Plan.nil ?_
  refine hK1 _ _ ?_; clear hK1
  refine W.seq_k fun K2 hK2 => ?_
  refine W.regionT [(0, false), (1, true)] (by kernel_rfl) ?_
  refine Plan.callE rfl FS3.call23 rfl (new_spec (i1 := (i1 + 1)) hH h1) (fun b => PIn.nil) fun b2 w2 h2 hb2 => ?_
  refine Plan.assign_ptr rfl rfl ?_
  refine Plan.nil ?_
  refine hK2 _ _ ?_; clear hK2
  refine W.seq_k fun K3 hK3 => ?_
  refine W.seq_k fun K4 hK4 => ?_
  refine W.regionT [(0, true), (1, true), (2, true)] (by kernel_rfl) ?_
  refine Plan.move_slice rfl rfl ?_
  refine Plan.len FS3.isl75 rfl rfl ?_
  refine Plan.move_int rfl rfl ?_
  refine Plan.nil ?_
  refine hK4 _ _ ?_; clear hK4
  refine W.block ?_
  refine W.loop (fun mR e w => ∃ (t : Nat) (st' : Nat → BitVec 32) (blk' : Nat → BitVec 8), mR = np - t ∧ (t ≤ np) ∧ (HashIs KK H0 (catN pl t) (catM pl M t) st' blk') ∧ EnvHas e [(2, .pointer (some ⟨b1, 0, none⟩)), (3, .pointer (some ⟨b2, 0, none⟩)), (7, .slice ap np cap), (8, VN np), (9, VN t)] ∧ St B w0 (⟨some b2, 0, 8, fun q => VU .u32 (st' q), true⟩ :: ⟨some b2, 8, 64, fun q => VU .u8 (blk' q), true⟩ :: ⟨some b2, 72, 1, fun _ => VN (catN pl t), true⟩ :: ⟨some b1, 0, 32, fun _ => VU .u8 0#8, true⟩ :: L) w) (_) ⟨0, _, _, rfl, by omega, HashIs.zero _ _ _ _, (EnvHas.cons rfl (EnvHas.cons rfl (EnvHas.cons rfl (EnvHas.cons rfl (EnvHas.cons rfl EnvHas.nil))))), h2⟩ ?_
  rintro _ ev3 wl3 ⟨t, st', blk', rfl, ht, hI', he3, h3⟩
  obtain ⟨ev3, rfl⟩ := he3.open
  refine W.seq_k fun K5 hK5 => ?_
  refine W.regionT [(0, true)] (by kernel_rfl) ?_
  refine Plan.ltS rfl rfl rfl ?_ ?_
  ·
    intro hc4
    have hcl := catN_le pl (show t + 1 ≤ np by omega)
    have hcs : catN pl (t + 1) = catN pl t + pl t := rfl
    obtain ⟨bp, rfl, rfl⟩ := hsl (by omega)
    refine Plan.nil ?_
    refine hK5 _ _ ?_; clear hK5
    refine W.seq_k fun K6 hK6 => ?_
    refine W.condT rfl ?_
    refine W.skip ?_
    refine hK6 _ _ ?_; clear hK6
    refine W.seq_k fun K7 hK7 => ?_
    refine W.block ?_
    refine W.seq_k fun K8 hK8 => ?_
    refine W.regionT [(0, true), (1, true), (2, true)] (by kernel_rfl) ?_
    refine Plan.idxSl1 FS3.sl75 rfl rfl rfl (by omega) ?_
    refine Plan.load1 h3 (iP + 4) rfl rfl hP (by omega) FS3.sc22 ?_
    refine Plan.assign_slice rfl rfl ?_
    refine Plan.nil ?_
    refine hK8 _ _ ?_; clear hK8
    refine W.regionT [(0, true), (1, true), (2, false)] (by kernel_rfl) ?_
    refine Plan.move_ptr rfl rfl ?_
    refine Plan.move_slice rfl rfl ?_
    refine Plan.callE rfl FS3.call25 rfl (write_bs (iG := iG + 1) hG h3 ((hPs t (by omega)).app [_]) (by omega) hI') (fun sb => PIn.nil) fun sb5 w5 h5 hI5 => ?_
    have hJ := hI5
    refine Plan.nil ?_
    refine blockR_norm ?_
    refine hK7 _ _ ?_; clear hK7
    refine W.regionT [(0, true), (1, true)] (by kernel_rfl) ?_
    refine Plan.addN (b := 1) rfl rfl rfl (by omega) ?_
    refine Plan.move_int rfl rfl ?_
    refine Plan.nil ?_
    refine thenR_norm ?_
    refine ⟨_, ?_, t + 1, _, _, rfl, by omega, hJ, (EnvHas.cons rfl (EnvHas.cons rfl (EnvHas.cons rfl (EnvHas.cons rfl (EnvHas.cons rfl EnvHas.nil))))), h5⟩
    omega
  ·
    intro hc6
    obtain rfl : t = np := by omega
    refine Plan.nil ?_
    refine hK5 _ _ ?_; clear hK5
    refine W.seq_k fun K9 hK9 => ?_
    refine W.condF rfl ?_
    refine W.exit (thenR_exit (thenR_exit (blockR_here ?_)))
    refine hK3 _ _ ?_; clear hK3
    refine W.seq_k fun K10 hK10 => ?_
    refine W.regionT [(0, true), (1, false), (2, false)] (by kernel_rfl) ?_
    refine Plan.move_ptr rfl rfl ?_
    refine Plan.callS rfl FS3.call27 rfl (sum_spec (iG := iG + 1) hG h3 hI' hN) PIn.nil fun w7 h7 => ?_
    refine Plan.storeA h7 3 rfl rfl rfl rfl (fun _ _ => rfl) FS3.sz32 rfl fun w8 h8 => ?_
    simp only [List.set_cons_zero, List.set_cons_succ] at h8
    refine Plan.nil ?_
    refine hK10 _ _ ?_; clear hK10
    refine W.ret (finR_ret ?_)
    refine RetOk.mk (.agg h8 rfl (.cons 3 rfl .nil) FS3.agg32 .nil) ?_
    exact ⟨rfl, h8.tl.tl.tl.tl⟩

end Go.Proofs.YtjdgbahjpdopbaaDoor
