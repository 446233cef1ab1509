/-
  WALKS, printed by this session's own generator (gen.py).
-/
import Derived.Test.YtjdgbahjpdopbaaDoorProg
import Derived.Test.YtjdgbahjpdopbaaDoorWSha3
import Derived.Test.YtjdgbahjpdopbaaDoorLw10
import Derived.Test.YtjdgbahjpdopbaaDoorShaP
namespace Go.Proofs.YtjdgbahjpdopbaaDoor
set_option linter.unusedSimpArgs false
set_option linter.unusedVariables false
set_option linter.unusedSectionVars false
open Go Go.LW
theorem FL1.call23 : callB Tryd.prog 23 = true := by kernel_rfl
theorem FL1.ptr37 : ptrB Tryd.prog 37 = true := by kernel_rfl
theorem FL1.zv5 : (Tryd.prog.info? 5).bind (·.zero) = some (VU .u8 0#8) := by kernel_rfl
theorem FL1.slu22 : Tryd.prog.underlying 22 = some (.slice 5) := by kernel_rfl
theorem FL1.sz5 : szT Tryd.prog 5 1 = true := by kernel_rfl
theorem FL1.call25 : callB Tryd.prog 25 = true := by kernel_rfl
theorem FL1.call26 : callB Tryd.prog 26 = true := by kernel_rfl
theorem FL1.isl22 : ∃ el, Tryd.prog.underlying 22 = some (.slice el) := ⟨5, by kernel_rfl⟩
theorem FL1.sl22 : slB Tryd.prog 22 1 = true := by kernel_rfl
theorem FL1.arr27 : arrB Tryd.prog 27 8 1 = true := by kernel_rfl
theorem FL1.z27 : zeroIs Tryd.prog 27 [(8, fun _ => VU .u32 0#32)] := zeroIs_agg (by kernel_rfl)
theorem FL1.sz27 : szT Tryd.prog 27 8 = true := by kernel_rfl
theorem FL1.agg27 : aggT Tryd.prog 27 8 = true := by kernel_rfl
theorem FL1.z32 : zeroIs Tryd.prog 32 [(32, fun _ => VU .u8 0#8)] := zeroIs_agg (by kernel_rfl)
theorem FL1.sc26 : scalarT Tryd.prog 26 = true := by kernel_rfl
theorem FL1.u5 : Tryd.prog.underlying 5 = some (.int .u8) := by kernel_rfl
theorem FL1.some26 : (Tryd.prog.underlying 26).isSome = true := by kernel_rfl
theorem FL1.arr32 : arrB Tryd.prog 32 32 1 = true := by kernel_rfl
theorem FL1.agg32 : aggT Tryd.prog 32 32 = true := by kernel_rfl
theorem FL1.sz32 : szT Tryd.prog 32 32 = true := by kernel_rfl
theorem FL1.call17 : callB Tryd.prog 17 = true := by kernel_rfl
theorem FL1.call18 : callB Tryd.prog 18 = true := by kernel_rfl
theorem FL1.el22 : elD Tryd.prog 22 = some (1, 1, some (VU .u8 0#8)) := by kernel_rfl
theorem FL1.some3 : (Tryd.prog.underlying 3).isSome = true := by kernel_rfl
theorem FL1.call19 : callB Tryd.prog 19 = true := by kernel_rfl
theorem FL1.mixed : Tryd.prog.follows .mixedOrders = true := by kernel_rfl
theorem FL1.isarr30 : Tryd.prog.underlying 30 = some (.array 64 5) := by kernel_rfl
theorem FL1.agg30 : aggT Tryd.prog 30 64 = true := by kernel_rfl
theorem FL1.call20 : callB Tryd.prog 20 = true := by kernel_rfl
theorem FL1.zv22 : (Tryd.prog.info? 22).bind (·.zero) = some (.slice none 0 0) := by kernel_rfl
theorem FL1.slu75 : Tryd.prog.underlying 75 = some (.slice 22) := by kernel_rfl
theorem FL1.sz22 : szT Tryd.prog 22 1 = true := by kernel_rfl
theorem FL1.call21 : callB Tryd.prog 21 = true := by kernel_rfl
theorem FL1.call22 : callB Tryd.prog 22 = true := by kernel_rfl
theorem FL1.arrI32 : arrIB Tryd.prog 32 32 .u8 = true := by kernel_rfl

set_option maxRecDepth 8000 in
set_option maxHeartbeats 1000000 in
theorem moves_spec {B : Nat} {w0 w : World} {L : List Rg} {KK : Nat → BitVec 32} {iG : Nat} (hG : L[iG]? = some ⟨some 0, 0, 64, fun q => VU .u32 (KK q), false⟩) {i1 : Nat} (hH : L[i1]? = some ⟨some 1, 0, 8, fun q => VU .u32 (H256 q), false⟩) (h : St B w0 L w) :
    Calls Tryd.prog 17 #[] w fun e w' => e = .returned (.bool true) ∧ St B w0 L w' := by
  refine W.enter 11 Tryd.func17 rfl rfl rfl ?_
  refine W.seq_k fun K1 hK1 => ?_
  refine W.regionT [(0, true)] (by kernel_rfl) ?_
  refine Plan.assign_bool rfl rfl ?_
  refine Plan.nil ?_
  refine hK1 _ _ ?_; clear hK1
  refine W.seq_k fun K2 hK2 => ?_
  refine W.regionT [(0, false), (1, true)] (by kernel_rfl) ?_
  refine Plan.callE rfl FL1.call23 rfl (new_spec (i1 := (i1 + 0)) hH h) (fun b => PIn.nil) fun b1 w1 h1 hb1 => ?_
  refine Plan.assign_ptr rfl rfl ?_
  refine Plan.nil ?_
  refine hK2 _ _ ?_; clear hK2
  refine W.seq_k fun K3 hK3 => ?_
  refine W.seq_k fun K4 hK4 => ?_
  refine W.regionT [(0, true), (1, true)] (by kernel_rfl) ?_
  refine Plan.move_ptr rfl rfl ?_
  refine Plan.eqNil (b := false) FL1.ptr37 rfl rfl rfl rfl ?_
  refine Plan.nil ?_
  refine hK4 _ _ ?_; clear hK4
  refine W.condF rfl ?_
  refine W.skip ?_
  refine hK3 _ _ ?_; clear hK3
  refine W.seq_k fun K5 hK5 => ?_
  refine W.regionT [(0, true), (1, false), (2, false)] (by kernel_rfl) ?_
  refine Plan.move_ptr rfl rfl ?_
  refine Plan.buildSlice h1 (ps := [(3, fun q => VU .u8 (lit [1#8, 2#8, 3#8] q))]) FL1.slu22 FL1.sz5 FL1.zv5 (by decide) (by decide) rfl rfl rfl (EffO.keep PIn.nil) fun b2 w2 hb2 h2 => ?_
  simp only [rngs, List.cons_append, List.nil_append] at h2
  have h3 := St.pickT (C := [_, _, _, _]) h2 [1, 2, 3, 0] (by decide)
  simp only [pick, List.filterMap_cons, List.filterMap_nil, List.getElem?_cons_zero, List.getElem?_cons_succ, List.cons_append, List.nil_append] at h3
  refine Plan.callE rfl FL1.call25 rfl (write_bs (iG := iG + 1) hG h3 (Bs.of 0 rfl (by omega) (by omega)) (by omega) (HashIs.zero _ _ (fun _ => 0#8) _)) (fun sb => PIn.nil) fun sb4 w4 h4 hI4 => ?_
  refine Plan.nil ?_
  refine hK5 _ _ ?_; clear hK5
  refine W.seq_k fun K6 hK6 => ?_
  refine W.regionT [(0, true), (1, false), (2, true), (3, true)] (by kernel_rfl) ?_
  refine Plan.move_ptr rfl rfl ?_
  refine Plan.call0 rfl FL1.call26 rfl (len_spec h4) ?_
  refine Plan.eqT rfl rfl rfl (by omega) ?_
  refine Plan.assign_bool rfl rfl ?_
  refine Plan.nil ?_
  refine hK6 _ _ ?_; clear hK6
  refine W.ret (finR_ret ?_)
  refine RetOk.mk (.tmp_bool rfl .nil) ?_
  exact ⟨rfl, h4.tl.tl.tl.tl⟩


set_option maxRecDepth 8000 in
set_option maxHeartbeats 1000000 in
theorem short_spec {B : Nat} {w0 w : World} {L : List Rg} {a : Option Addr} {len cc N : Nat} {M : Nat → BitVec 8} (h : St B w0 L w) (hB : Bs L a len cc M) :
    Calls Tryd.prog 18 #[.slice a len cc, VN N] w fun e w' => ∃ p : Option Addr × Nat, e = .returned (.slice p.1 (min len N) p.2) ∧ St B w0 L w' ∧ Bs L p.1 (min len N) p.2 M := by
  refine W.enter 13 Tryd.func18 rfl rfl rfl ?_
  have hcc := hB.le
  refine W.seq_k fun K1 hK1 => ?_
  refine W.regionT [(0, true)] (by kernel_rfl) ?_
  refine Plan.assign_slice rfl rfl ?_
  refine Plan.nil ?_
  refine hK1 _ _ ?_; clear hK1
  refine W.seq_k fun K2 hK2 => ?_
  refine W.seq_k fun K3 hK3 => ?_
  refine W.regionT [(0, true), (1, true), (2, true), (3, true)] (by kernel_rfl) ?_
  refine Plan.move_slice rfl rfl ?_
  refine Plan.len FL1.isl22 rfl rfl ?_
  refine Plan.move_int rfl rfl ?_
  refine Plan.gtS rfl rfl rfl ?_ ?_
  ·
    intro hc1
    refine Plan.nil ?_
    refine hK3 _ _ ?_; clear hK3
    refine W.condT rfl ?_
    refine W.seq_k fun K4 hK4 => ?_
    refine W.regionT [(0, true), (1, true), (2, true), (3, true)] (by kernel_rfl) ?_
    refine Plan.move_slice rfl rfl ?_
    refine Plan.move_int rfl rfl ?_
    refine Plan.slSl FL1.sl22 rfl rfl rfl ⟨_, rfl⟩ (by omega) ?_
    refine Plan.assign_slice rfl rfl ?_
    refine Plan.nil ?_
    refine hK4 _ _ ?_; clear hK4
    refine W.ret (thenR_ret (finR_ret ?_))
    refine RetOk.mk (.tmp_slice rfl .nil) ?_
    have hmn : min len N = N := by omega
    rw [hmn]
    exact ⟨(_, _), rfl, h, (hB.slice (lo := 0) (hi := N) (by omega)).congr fun q _ => by rw [Nat.zero_add]⟩
  ·
    intro hc2
    refine Plan.nil ?_
    refine hK3 _ _ ?_; clear hK3
    refine W.condF rfl ?_
    refine W.skip ?_
    refine hK2 _ _ ?_; clear hK2
    refine W.seq_k fun K5 hK5 => ?_
    refine W.regionT [(0, true), (1, true)] (by kernel_rfl) ?_
    refine Plan.move_slice rfl rfl ?_
    refine Plan.assign_slice rfl rfl ?_
    refine Plan.nil ?_
    refine hK5 _ _ ?_; clear hK5
    refine W.ret (finR_ret ?_)
    refine RetOk.mk (.tmp_slice rfl .nil) ?_
    have hmn : min len N = len := by omega
    rw [hmn]
    exact ⟨(a, cc), rfl, h, hB⟩


set_option maxRecDepth 8000 in
set_option maxHeartbeats 1000000 in
theorem begin_spec {B : Nat} {w0 w : World} {L : List Rg} (h : St B w0 L w) :
    Calls Tryd.prog 19 #[] w fun e w' => e = .returned (AG [(8, fun q => VU .u32 (H256 q))]) ∧ St B w0 L w' := by
  refine W.enter 2 Tryd.func19 rfl rfl rfl ?_
  refine W.seq_k fun K1 hK1 => ?_
  refine W.regionT [(0, false)] (by kernel_rfl) ?_
  refine Plan.alloc h rfl FL1.z27 PIn.nil fun b1 w1 hb1 h1 => ?_
  simp only [rngs, Nat.zero_add, Nat.reduceAdd, List.cons_append, List.nil_append] at h1
  refine Plan.nil ?_
  refine hK1 _ _ ?_; clear hK1
  refine W.seq_k fun K2 hK2 => ?_
  refine W.regionT [(0, true), (1, false)] (by kernel_rfl) ?_
  refine Plan.buildArr (ps := [(8, fun q => VU .u32 (H256 q))]) FL1.arr27 FL1.z27 rfl rfl rfl ?_
  refine Plan.storeA h1 0 rfl rfl rfl rfl (fun _ _ => rfl) FL1.sz27 rfl fun w2 h2 => ?_
  simp only [List.set_cons_zero, List.set_cons_succ] at h2
  refine Plan.nil ?_
  refine hK2 _ _ ?_; clear hK2
  refine W.ret (finR_ret ?_)
  refine RetOk.mk (.agg h2 rfl (.cons 0 rfl .nil) FL1.agg27 .nil) ?_
  exact ⟨rfl, h2.tl⟩


set_option maxRecDepth 8000 in
set_option maxHeartbeats 1000000 in
theorem digest_spec {B : Nat} {w0 w : World} {L : List Rg} {st : Nat → BitVec 32} (h : St B w0 L w) :
    Calls Tryd.prog 22 #[AG [(8, fun q => VU .u32 (st q))]] w fun e w' => e = .returned (AG [(32, fun q => VU .u8 (dig st q))]) ∧ St B w0 L w' := by
  refine W.enter 44 Tryd.func22 rfl rfl rfl ?_
  refine W.seq_k fun K1 hK1 => ?_
  refine W.regionT [(0, false), (1, false)] (by kernel_rfl) ?_
  refine Plan.boxA h rfl rfl PIn.nil fun b1 w1 hb1 h1 => ?_
  simp only [rngs, Nat.zero_add, Nat.reduceAdd, List.cons_append, List.nil_append] at h1
  refine Plan.alloc h1 rfl FL1.z32 PIn.nil fun b2 w2 hb2 h2 => ?_
  simp only [rngs, Nat.zero_add, Nat.reduceAdd, List.cons_append, List.nil_append] at h2
  refine Plan.nil ?_
  refine hK1 _ _ ?_; clear hK1
  refine W.seq_k fun K2 hK2 => ?_
  refine W.regionT [(0, false)] (by kernel_rfl) ?_
  refine Plan.alloc h2 rfl FL1.z32 PIn.nil fun b3 w3 hb3 h3 => ?_
  simp only [rngs, Nat.zero_add, Nat.reduceAdd, List.cons_append, List.nil_append] at h3
  refine Plan.nil ?_
  refine hK2 _ _ ?_; clear hK2
  refine W.seq_k fun K3 hK3 => ?_
  refine W.seq_k fun K4 hK4 => ?_
  refine W.regionT [(0, true)] (by kernel_rfl) ?_
  refine Plan.assign_int rfl rfl ?_
  refine Plan.nil ?_
  refine hK4 _ _ ?_; clear hK4
  refine W.block ?_
  refine W.loop (fun mR e w => ∃ t : Nat, mR = 8 - t ∧ (t ≤ 8) ∧ EnvHas e [(1, .pointer (some ⟨b1, 0, none⟩)), (2, .pointer (some ⟨b2, 0, none⟩)), (3, .pointer (some ⟨b3, 0, none⟩)), (4, VN t)] ∧ St B w0 (⟨some b3, 0, 32, fun q => VU .u8 (dgb st t q), true⟩ :: ⟨some b2, 0, 32, fun _ => VU .u8 0#8, true⟩ :: ⟨some b1, 0, 8, fun q => VU .u32 (st q), true⟩ :: L) w) (_) ⟨0, rfl, by omega, (EnvHas.cons rfl (EnvHas.cons rfl (EnvHas.cons rfl (EnvHas.cons rfl EnvHas.nil)))), h3⟩ ?_
  rintro _ ev4 wl4 ⟨t, rfl, ht, he4, h4⟩
  obtain ⟨ev4, rfl⟩ := he4.open
  refine W.seq_k fun K5 hK5 => ?_
  refine W.seq_k fun K6 hK6 => ?_
  refine W.regionT [(0, true), (1, true)] (by kernel_rfl) ?_
  refine Plan.move_int rfl rfl ?_
  refine Plan.ltS rfl rfl rfl ?_ ?_
  ·
    intro hc5
    refine Plan.nil ?_
    refine hK6 _ _ ?_; clear hK6
    refine W.condT rfl ?_
    refine W.skip ?_
    refine hK5 _ _ ?_; clear hK5
    refine W.seq_k fun K7 hK7 => ?_
    refine W.block ?_
    refine W.seq_k fun K8 hK8 => ?_
    refine W.regionT [(0, true), (1, true), (2, true), (3, true), (4, true), (5, true), (6, true), (7, true), (8, false)] (by kernel_rfl) ?_
    refine Plan.move_int rfl rfl ?_
    refine Plan.mulN (a := 4) rfl rfl rfl (by omega) ?_
    refine Plan.move_int rfl rfl ?_
    refine Plan.idxArr1 FL1.arr27 rfl rfl rfl (by omega) ?_
    refine Plan.load1 h4 2 rfl rfl rfl (by omega) FL1.sc26 ?_
    refine Plan.shrU .u32 (c := 24) rfl rfl rfl ?_
    refine Plan.convUU .u8 FL1.u5 FL1.some26 rfl rfl ?_
    refine Plan.idxArr1 FL1.arr32 rfl rfl rfl (by omega) ?_
    refine Plan.storeU h4 0 rfl rfl rfl rfl (by omega) FL1.sz5 rfl fun w6 h6 => ?_
    simp only [List.set_cons_zero, List.set_cons_succ] at h6
    refine Plan.nil ?_
    refine hK8 _ _ ?_; clear hK8
    refine W.seq_k fun K9 hK9 => ?_
    refine W.regionT [(0, true), (1, true), (2, true), (3, true), (4, true), (5, true), (6, true), (7, true), (8, true), (9, false)] (by kernel_rfl) ?_
    refine Plan.move_int rfl rfl ?_
    refine Plan.mulN (a := 4) rfl rfl rfl (by omega) ?_
    refine Plan.addN (b := 1) rfl rfl rfl (by omega) ?_
    refine Plan.move_int rfl rfl ?_
    refine Plan.idxArr1 FL1.arr27 rfl rfl rfl (by omega) ?_
    refine Plan.load1 h6 2 rfl rfl rfl (by omega) FL1.sc26 ?_
    refine Plan.shrU .u32 (c := 16) rfl rfl rfl ?_
    refine Plan.convUU .u8 FL1.u5 FL1.some26 rfl rfl ?_
    refine Plan.idxArr1 FL1.arr32 rfl rfl rfl (by omega) ?_
    refine Plan.storeU h6 0 rfl rfl rfl rfl (by omega) FL1.sz5 rfl fun w7 h7 => ?_
    simp only [List.set_cons_zero, List.set_cons_succ] at h7
    refine Plan.nil ?_
    refine hK9 _ _ ?_; clear hK9
    refine W.seq_k fun K10 hK10 => ?_
    refine W.regionT [(0, true), (1, true), (2, true), (3, true), (4, true), (5, true), (6, true), (7, true), (8, true), (9, false)] (by kernel_rfl) ?_
    refine Plan.move_int rfl rfl ?_
    refine Plan.mulN (a := 4) rfl rfl rfl (by omega) ?_
    refine Plan.addN (b := 2) rfl rfl rfl (by omega) ?_
    refine Plan.move_int rfl rfl ?_
    refine Plan.idxArr1 FL1.arr27 rfl rfl rfl (by omega) ?_
    refine Plan.load1 h7 2 rfl rfl rfl (by omega) FL1.sc26 ?_
    refine Plan.shrU .u32 (c := 8) rfl rfl rfl ?_
    refine Plan.convUU .u8 FL1.u5 FL1.some26 rfl rfl ?_
    refine Plan.idxArr1 FL1.arr32 rfl rfl rfl (by omega) ?_
    refine Plan.storeU h7 0 rfl rfl rfl rfl (by omega) FL1.sz5 rfl fun w8 h8 => ?_
    simp only [List.set_cons_zero, List.set_cons_succ] at h8
    refine Plan.nil ?_
    refine hK10 _ _ ?_; clear hK10
    refine W.regionT [(0, true), (1, true), (2, true), (3, true), (4, true), (5, true), (6, true), (7, true), (8, false)] (by kernel_rfl) ?_
    refine Plan.move_int rfl rfl ?_
    refine Plan.mulN (a := 4) rfl rfl rfl (by omega) ?_
    refine Plan.addN (b := 3) rfl rfl rfl (by omega) ?_
    refine Plan.move_int rfl rfl ?_
    refine Plan.idxArr1 FL1.arr27 rfl rfl rfl (by omega) ?_
    refine Plan.load1 h8 2 rfl rfl rfl (by omega) FL1.sc26 ?_
    refine Plan.convUU .u8 FL1.u5 FL1.some26 rfl rfl ?_
    refine Plan.idxArr1 FL1.arr32 rfl rfl rfl (by omega) ?_
    refine Plan.storeU h8 0 rfl rfl rfl rfl (by omega) FL1.sz5 rfl fun w9 h9 => ?_
    simp only [List.set_cons_zero, List.set_cons_succ] at h9
    refine Plan.nil ?_
    refine blockR_norm ?_
    refine hK7 _ _ ?_; clear hK7
    refine W.regionT [(0, true), (1, true), (2, true)] (by kernel_rfl) ?_
    refine Plan.move_int rfl rfl ?_
    refine Plan.addN (b := 1) rfl rfl rfl (by omega) ?_
    refine Plan.assign_int rfl rfl ?_
    refine Plan.nil ?_
    refine thenR_norm ?_
    refine ⟨_, ?_, t + 1, rfl, by omega, (EnvHas.cons rfl (EnvHas.cons rfl (EnvHas.cons rfl (EnvHas.cons rfl EnvHas.nil)))), h9⟩
    omega
  ·
    intro hc10
    obtain rfl : t = 8 := by omega
    refine Plan.nil ?_
    refine hK6 _ _ ?_; clear hK6
    refine W.condF rfl ?_
    refine W.exit (thenR_exit (thenR_exit (blockR_here ?_)))
    refine hK3 _ _ ?_; clear hK3
    refine W.seq_k fun K11 hK11 => ?_
    refine W.regionT [(0, true), (1, false)] (by kernel_rfl) ?_
    refine Plan.loadA1 h4 0 rfl rfl rfl FL1.agg32 ?_
    refine Plan.storeA h4 1 rfl rfl rfl rfl (fun _ _ => rfl) FL1.sz32 rfl fun w11 h11 => ?_
    simp only [List.set_cons_zero, List.set_cons_succ] at h11
    refine Plan.nil ?_
    refine hK11 _ _ ?_; clear hK11
    refine W.ret (finR_ret ?_)
    refine RetOk.mk (.agg h11 rfl (.cons 1 rfl .nil) FL1.agg32 .nil) ?_
    exact ⟨congrArg _ (AG_congr fun j hj => by rw [dgb_at st 8 j (by omega)]), h11.tl.tl.tl⟩


set_option maxRecDepth 8000 in
set_option maxHeartbeats 1000000 in
theorem isBlocks_spec {B : Nat} {w0 w : World} {L : List Rg} {KK : Nat → BitVec 32} {iG : Nat} (hG : L[iG]? = some ⟨some 0, 0, 64, fun q => VU .u32 (KK q), false⟩) {i1 : Nat} (hH : L[i1]? = some ⟨some 1, 0, 8, fun q => VU .u32 (H256 q), false⟩) {a : Option Addr} {len cc : Nat} {M : Nat → BitVec 8} (h : St B w0 L w) (hB : Bs L a len cc M) :
    Calls Tryd.prog 3 #[.slice a len cc] w fun e w' => e = .returned (.bool true) ∧ St B w0 L w' := by
  refine W.enter 58 Tryd.func3 rfl rfl rfl ?_
  have hcc := hB.le
  refine W.seq_k fun K1 hK1 => ?_
  refine W.regionT [(0, true)] (by kernel_rfl) ?_
  refine Plan.assign_bool rfl rfl ?_
  refine Plan.nil ?_
  refine hK1 _ _ ?_; clear hK1
  refine W.seq_k fun K2 hK2 => ?_
  refine W.seq_k fun K3 hK3 => ?_
  refine W.regionT [(0, false), (1, true)] (by kernel_rfl) ?_
  refine Plan.callS rfl FL1.call17 rfl (moves_spec (iG := (iG + 0)) hG (i1 := (i1 + 0)) hH h) PIn.nil fun w1 h1 => ?_
  refine Plan.notT rfl rfl ?_
  refine Plan.nil ?_
  refine hK3 _ _ ?_; clear hK3
  refine W.condF rfl ?_
  refine W.skip ?_
  refine hK2 _ _ ?_; clear hK2
  refine W.seq_k fun K4 hK4 => ?_
  refine W.regionT [(0, true), (1, false), (2, true)] (by kernel_rfl) ?_
  refine Plan.move_slice rfl rfl ?_
  refine Plan.callE rfl FL1.call18 rfl (short_spec h1 hB) (fun b => PIn.nil) fun p2 w2 h2 hB2 => ?_
  obtain ⟨a1, c1⟩ := p2
  simp only at hB2
  clear hB hcc
  have hB := hB2
  clear hB2
  have hcc := hB.le
  have hl9 : min len 2000 ≤ 2000 := Nat.min_le_right _ _
  generalize min len 2000 = N at *
  refine Plan.assign_slice rfl rfl ?_
  refine Plan.nil ?_
  refine hK4 _ _ ?_; clear hK4
  refine W.seq_k fun K5 hK5 => ?_
  refine W.regionT [(0, true), (1, false), (2, false), (3, false), (4, true)] (by kernel_rfl) ?_
  refine Plan.move_slice rfl rfl ?_
  have h3 := h2.ownNil
  refine Plan.appendU h3 0 FL1.el22 rfl rfl rfl rfl OwnSl.nil (Src.ofBs h3 FL1.sl22 (hB.cons _)) (by omega) (by omega) (by omega) (fun _ => EffO.keep PIn.nil) fun a4 pb4 cap4 F4 w4 ho4 hc4 hF4 h4 => ?_
  simp only [List.set_cons_zero, List.set_cons_succ] at h4
  simp only [Nat.zero_add] at hc4 hF4
  refine Plan.buildSlice h4 (ps := [(1, fun _ => VU .u8 128#8)]) FL1.slu22 FL1.sz5 FL1.zv5 (by decide) (by decide) rfl rfl rfl (EffO.keep PIn.nil) fun b5 w5 hb5 h5 => ?_
  simp only [rngs, List.cons_append, List.nil_append] at h5
  refine Plan.appendU h5 1 FL1.el22 rfl rfl rfl rfl ho4 (Src.ofBs h5 FL1.sl22 (Bs.of 0 rfl (by omega) (by omega))) (by omega) (by omega) (by omega) (fun _ => EffO.keep PIn.nil) fun a7 pb7 cap7 F7 w7 ho7 hc7 hF7 h7 => ?_
  simp only [List.set_cons_zero, List.set_cons_succ] at h7
  have hP : ∀ q, q < 0 + N + 1 → F7 q = pad1 M N q := fun q hq => by
    have hq : q < N + 1 := by omega
    rw [hF7 q (by omega), Nat.zero_add, ← pad1_start M N (fun _ => 128#8) rfl q hq]
    by_cases h1 : q < N
    · rw [spl_out _ _ _ _ _ (by omega), spl_out _ _ _ _ _ (by omega), hF4 q h1, spl_in _ _ _ _ _ (by omega), Nat.sub_zero]
    · rw [spl_in _ _ _ _ _ (by omega), spl_in _ _ _ _ _ (by omega)]
  refine Plan.assign_slice rfl rfl ?_
  refine Plan.nil ?_
  refine hK5 _ _ ?_; clear hK5
  refine W.seq_k fun K6 hK6 => ?_
  refine W.block ?_
  have h8 := St.pickT (C := [_, _]) h7 [1] (by decide)
  simp only [pick, List.filterMap_cons, List.filterMap_nil, List.getElem?_cons_zero, List.getElem?_cons_succ, List.cons_append, List.nil_append] at h8
  have hxm := xlen_mod N
  have hxl := xlen_le N
  refine W.loop (fun mR e w => ∃ (x cap' : Nat) (a' : Option Addr) (pb' : Option Nat) (F' : Nat → BitVec 8), mR = (120 - x % 64) % 64 ∧ (N + 1 ≤ x) ∧ (x + (120 - x % 64) % 64 = xlen N) ∧ (OwnSl a' pb' cap') ∧ (x ≤ cap') ∧ (∀ q, q < x → F' q = pad1 M N q) ∧ EnvHas e [(0, .slice a1 N c1), (3, .slice a' x cap')] ∧ St B w0 (⟨pb', 0, cap', fun q => VU .u8 (F' q), true⟩ :: L) w) (_) ⟨0 + N + 1, _, _, _, _, rfl, by omega, by unfold xlen; omega, ho7, by omega, hP, (EnvHas.cons rfl (EnvHas.cons rfl EnvHas.nil)), h8⟩ ?_
  rintro _ ev9 wl9 ⟨x, cap', a', pb', F', rfl, hx, hx2, ho', hc', hP', he9, h9⟩
  obtain ⟨ev9, rfl⟩ := he9.open
  refine W.seq_k fun K7 hK7 => ?_
  refine W.seq_k fun K8 hK8 => ?_
  refine W.regionT [(0, true), (1, true), (2, true), (3, true)] (by kernel_rfl) ?_
  refine Plan.move_slice rfl rfl ?_
  refine Plan.len FL1.isl22 rfl rfl ?_
  refine Plan.remN (b := 64) rfl rfl rfl (by omega) ?_
  refine Plan.neS rfl rfl rfl ?_ ?_
  ·
    intro hc10
    refine Plan.nil ?_
    refine hK8 _ _ ?_; clear hK8
    refine W.condT rfl ?_
    refine W.skip ?_
    refine hK7 _ _ ?_; clear hK7
    refine W.block ?_
    refine W.regionT [(0, true), (1, false), (2, false), (3, true)] (by kernel_rfl) ?_
    refine Plan.move_slice rfl rfl ?_
    refine Plan.buildSlice h9 (ps := [(1, fun _ => VU .u8 0#8)]) FL1.slu22 FL1.sz5 FL1.zv5 (by decide) (by decide) rfl rfl rfl (EffO.keep PIn.nil) fun b11 w11 hb11 h11 => ?_
    simp only [rngs, List.cons_append, List.nil_append] at h11
    refine Plan.appendU h11 1 FL1.el22 rfl rfl rfl rfl ho' (Src.ofBs h11 FL1.sl22 (Bs.of 0 rfl (by omega) (by omega))) (by omega) (by omega) (by omega) (fun _ => EffO.keep PIn.nil) fun a13 pb13 cap13 F13 w13 ho13 hc13 hF13 h13 => ?_
    simp only [List.set_cons_zero, List.set_cons_succ] at h13
    have hP : ∀ q, q < x + 1 → F13 q = pad1 M N q := fun q hq => by
      rw [hF13 q hq, ← pad1_next M N x (fun _ => 0#8) rfl (by omega) q hq]
      by_cases h1 : q < x
      · rw [spl_out _ _ _ _ _ (by omega), spl_out _ _ _ _ _ (by omega), hP' q h1]
      · rw [spl_in _ _ _ _ _ (by omega), spl_in _ _ _ _ _ (by omega)]
    refine Plan.assign_slice rfl rfl ?_
    refine Plan.nil ?_
    refine blockR_norm ?_
    refine thenR_norm ?_
    have h14 := St.pickT (C := [_, _]) h13 [1] (by decide)
    simp only [pick, List.filterMap_cons, List.filterMap_nil, List.getElem?_cons_zero, List.getElem?_cons_succ, List.cons_append, List.nil_append] at h14
    refine ⟨_, ?_, x + 1, cap13, a13, pb13, F13, rfl, by omega, by omega, ho13, by omega, hP, (EnvHas.cons rfl (EnvHas.cons rfl EnvHas.nil)), h14⟩
    omega
  ·
    intro hc15
    have hxe : x = xlen N := by omega
    subst hxe
    refine Plan.nil ?_
    refine hK8 _ _ ?_; clear hK8
    refine W.condF rfl ?_
    refine W.exit (thenR_exit (thenR_exit (blockR_here ?_)))
    refine hK6 _ _ ?_; clear hK6
    refine W.seq_k fun K9 hK9 => ?_
    refine W.regionT [(0, true), (1, true), (2, true), (3, true)] (by kernel_rfl) ?_
    refine Plan.move_slice rfl rfl ?_
    refine Plan.len FL1.isl22 rfl rfl ?_
    refine Plan.mulN (a := 8) rfl rfl rfl (by omega) ?_
    refine Plan.assign_int rfl rfl ?_
    refine Plan.nil ?_
    refine hK9 _ _ ?_; clear hK9
    refine W.seq_k fun K10 hK10 => ?_
    refine W.regionT [(0, true), (1, true), (2, true), (3, true), (4, true), (5, true), (6, true), (7, true), (8, true), (9, false), (10, false), (11, true)] (by kernel_rfl) ?_
    refine Plan.move_slice rfl rfl ?_
    refine Plan.move_int rfl rfl ?_
    refine Plan.shrN (c := 16) rfl rfl rfl (by omega) ?_
    refine Plan.convNU .u8 FL1.u5 FL1.some3 rfl rfl ?_
    refine Plan.move_int rfl rfl ?_
    refine Plan.shrN (c := 8) rfl rfl rfl (by omega) ?_
    refine Plan.convNU .u8 FL1.u5 FL1.some3 rfl rfl ?_
    refine Plan.move_int rfl rfl ?_
    refine Plan.convNU .u8 FL1.u5 FL1.some3 rfl rfl ?_
    refine Plan.buildSlice h9 (ps := [(8, fun q => VU .u8 (lit [0#8, 0#8, 0#8, 0#8, 0#8, _, _, _] q))]) FL1.slu22 FL1.sz5 FL1.zv5 (by decide) (by decide) rfl rfl rfl (EffO.keep PIn.nil) fun b16 w16 hb16 h16 => ?_
    simp only [rngs, List.cons_append, List.nil_append] at h16
    refine Plan.appendU h16 1 FL1.el22 rfl rfl rfl rfl ho' (Src.ofBs h16 FL1.sl22 (Bs.of 0 rfl (by omega) (by omega))) (by omega) (by omega) (by omega) (fun _ => EffO.keep PIn.nil) fun a18 pb18 cap18 F18 w18 ho18 hc18 hF18 h18 => ?_
    simp only [List.set_cons_zero, List.set_cons_succ] at h18
    have hQ : ∀ q, q < xlen N + 8 → F18 q = padf M N q := fun q hq => (hF18 q hq).trans (padf_end hl9 hP' q hq)
    obtain ⟨bF, rfl, rfl⟩ := ho18.pos (by omega)
    generalize F18 = FF at *
    refine Plan.assign_slice rfl rfl ?_
    refine Plan.nil ?_
    refine hK10 _ _ ?_; clear hK10
    refine W.seq_k fun K11 hK11 => ?_
    refine W.regionT [(0, false), (1, false), (2, false)] (by kernel_rfl) ?_
    refine Plan.callS rfl FL1.call19 rfl (begin_spec h18) PIn.nil fun w19 h19 => ?_
    refine Plan.alloc h19 rfl FL1.z27 PIn.nil fun b20 w20 hb20 h20 => ?_
    simp only [rngs, Nat.zero_add, Nat.reduceAdd, List.cons_append, List.nil_append] at h20
    refine Plan.storeA h20 0 rfl rfl rfl rfl (fun _ _ => rfl) FL1.sz27 rfl fun w21 h21 => ?_
    simp only [List.set_cons_zero, List.set_cons_succ] at h21
    refine Plan.nil ?_
    refine hK11 _ _ ?_; clear hK11
    refine W.seq_k fun K12 hK12 => ?_
    refine W.seq_k fun K13 hK13 => ?_
    refine W.regionT [(0, true)] (by kernel_rfl) ?_
    refine Plan.assign_int rfl rfl ?_
    refine Plan.nil ?_
    refine hK13 _ _ ?_; clear hK13
    refine W.block ?_
    have h22 := St.pickT (C := [_, _, _]) h21 [0, 2] (by decide)
    simp only [pick, List.filterMap_cons, List.filterMap_nil, List.getElem?_cons_zero, List.getElem?_cons_succ, List.cons_append, List.nil_append] at h22
    refine W.loop (fun mR e w => ∃ (i : Nat) (st' : Nat → BitVec 32), mR = xlen N + 8 - 64 * i ∧ (64 * i ≤ xlen N + 8) ∧ (∀ q, q < 8 → st' q = hstN KK H256 (padf M N) i q) ∧ EnvHas e [(0, .slice a1 N c1), (3, .slice (some ⟨bF, 0, none⟩) (xlen N + 8) cap18), (5, .pointer (some ⟨b20, 0, none⟩)), (6, VN (64 * i))] ∧ St B w0 (⟨some b20, 0, 8, fun q => VU .u32 (st' q), true⟩ :: ⟨some bF, 0, cap18, fun q => VU .u8 (FF q), true⟩ :: L) w) (_) ⟨0, _, rfl, by omega, fun _ _ => rfl, (EnvHas.cons rfl (EnvHas.cons rfl (EnvHas.cons rfl (EnvHas.cons rfl EnvHas.nil)))), h22⟩ ?_
    rintro _ ev23 wl23 ⟨i, st', rfl, hi, hst, he23, h23⟩
    obtain ⟨ev23, rfl⟩ := he23.open
    refine W.seq_k fun K14 hK14 => ?_
    refine W.seq_k fun K15 hK15 => ?_
    refine W.regionT [(0, true), (1, true), (2, true), (3, true)] (by kernel_rfl) ?_
    refine Plan.move_int rfl rfl ?_
    refine Plan.move_slice rfl rfl ?_
    refine Plan.len FL1.isl22 rfl rfl ?_
    refine Plan.ltS rfl rfl rfl ?_ ?_
    ·
      intro hc24
      refine Plan.nil ?_
      refine hK15 _ _ ?_; clear hK15
      refine W.condT rfl ?_
      refine W.skip ?_
      refine hK14 _ _ ?_; clear hK14
      refine W.seq_k fun K16 hK16 => ?_
      refine W.block ?_
      refine W.regionD FL1.mixed [(0, true), (1, true), (2, true), (3, true), (4, true), (5, true), (6, true), (7, true), (8, false), (9, false)] (by kernel_rfl) ?_
      have h25 := h23.drew
      refine Plan.loadA1 h25 0 rfl rfl rfl FL1.agg27 ?_
      refine Plan.move_slice rfl rfl ?_
      refine Plan.move_int rfl rfl ?_
      refine Plan.move_int rfl rfl ?_
      refine Plan.addN (b := 64) rfl rfl rfl (by omega) ?_
      refine Plan.slSl FL1.sl22 rfl rfl ⟨_, rfl⟩ ⟨_, rfl⟩ (by omega) ?_
      refine Plan.sl2arr (m := 64) FL1.isarr30 rfl rfl (SlV.sl (by omega)) (by omega) ?_
      refine Plan.loadSub h25 1 _ rfl rfl rfl rfl (by omega) FL1.agg30 ?_
      refine Plan.callW rfl FL1.call20 rfl (compress_spec KK st' _ h25 (iG := (iG + 2)) hG) rfl fun w26 h26 => ?_
      refine Plan.storeA h26 0 rfl rfl rfl rfl (fun _ _ => rfl) FL1.sz27 rfl fun w27 h27 => ?_
      simp only [List.set_cons_zero, List.set_cons_succ] at h27
      refine Plan.nil ?_
      refine blockR_norm ?_
      refine hK16 _ _ ?_; clear hK16
      refine W.regionT [(0, true), (1, true), (2, true)] (by kernel_rfl) ?_
      refine Plan.move_int rfl rfl ?_
      refine Plan.addN (b := 64) rfl rfl rfl (by omega) ?_
      refine Plan.assign_int rfl rfl ?_
      refine Plan.nil ?_
      refine thenR_norm ?_
      refine ⟨_, ?_, i + 1, _, rfl, by omega, fun q hq => compress_congr hst (fun q hq => hQ _ (by omega)) q hq, (EnvHas.cons rfl (EnvHas.cons rfl (EnvHas.cons rfl (EnvHas.cons rfl EnvHas.nil)))), h27⟩
      omega
    ·
      intro hc28
      refine Plan.nil ?_
      refine hK15 _ _ ?_; clear hK15
      refine W.condF rfl ?_
      refine W.exit (thenR_exit (thenR_exit (blockR_here ?_)))
      refine hK12 _ _ ?_; clear hK12
      refine W.seq_k fun K17 hK17 => ?_
      refine W.regionD FL1.mixed [(0, true), (3, true), (1, false), (2, false), (4, false), (5, true), (6, true)] (by kernel_rfl) ?_
      have h29 := h23.drew
      refine Plan.move_slice rfl rfl ?_
      refine Plan.loadA1 h29 0 rfl rfl rfl FL1.agg27 ?_
      refine Plan.buildSlice h29 (ps := [(1, fun _ => .slice a1 N c1)]) FL1.slu75 FL1.sz22 FL1.zv22 (by decide) (by decide) rfl rfl rfl (EffO.keep (PIn.cons 0 rfl PIn.nil)) fun b30 w30 hb30 h30 => ?_
      simp only [rngs, List.cons_append, List.nil_append] at h30
      refine Plan.callS rfl FL1.call21 rfl (sumall_spec (iG := (iG + 3)) hG (i1 := (i1 + 3)) hH (iP := 0) (pa := fun _ => a1) (pl := fun _ => N) (pc := fun _ => c1) (M := fun _ => M) h30 rfl (fun _ => ⟨_, rfl, rfl⟩) (Nat.le_refl _) (by decide) (fun _ _ => hB.app [_, _, _]) (by rw [catN_one]; omega)) (PIn.cons 1 rfl PIn.nil) fun w31 h31 => ?_
      refine Plan.callS rfl FL1.call22 rfl (digest_spec h31) (PIn.cons 1 rfl PIn.nil) fun w32 h32 => ?_
      refine Plan.eqArrT FL1.arrI32 rfl rfl rfl (sha_of hst (by omega)) ?_
      refine Plan.assign_bool rfl rfl ?_
      refine Plan.nil ?_
      refine hK17 _ _ ?_; clear hK17
      refine W.ret (finR_ret ?_)
      refine RetOk.mk (.tmp_bool rfl .nil) ?_
      exact ⟨rfl, h32.tl.tl.tl⟩

end Go.Proofs.YtjdgbahjpdopbaaDoor
