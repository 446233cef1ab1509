/-
  WALKS, printed by this session's own generator (gen.py).
-/
import Derived.Test.YtjdgbahjpdopbaaDoorProg
import Derived.Test.YtjdgbahjpdopbaaDoorWLaw1
import Derived.Test.YtjdgbahjpdopbaaDoorWShaL
import Derived.Test.YtjdgbahjpdopbaaDoorLw13
namespace Go.Proofs.YtjdgbahjpdopbaaDoor
set_option linter.unusedSimpArgs false
set_option linter.unusedVariables false
set_option linter.unusedSectionVars false
open Go Go.LW
theorem FL2.call17 : callB Tryd.prog 17 = true := by kernel_rfl
theorem FL2.call18 : callB Tryd.prog 18 = true := by kernel_rfl
theorem FL2.zv22 : (Tryd.prog.info? 22).bind (·.zero) = some (.slice none 0 0) := by kernel_rfl
theorem FL2.slu75 : Tryd.prog.underlying 75 = some (.slice 22) := by kernel_rfl
theorem FL2.sz22 : szT Tryd.prog 22 1 = true := by kernel_rfl
theorem FL2.call21 : callB Tryd.prog 21 = true := by kernel_rfl
theorem FL2.z32 : zeroIs Tryd.prog 32 [(32, fun _ => VU .u8 0#8)] := zeroIs_agg (by kernel_rfl)
theorem FL2.sz32 : szT Tryd.prog 32 32 = true := by kernel_rfl
theorem FL2.call23 : callB Tryd.prog 23 = true := by kernel_rfl
theorem FL2.ptr37 : ptrB Tryd.prog 37 = true := by kernel_rfl
theorem FL2.isl36 : ∃ el, Tryd.prog.underlying 36 = some (.slice el) := ⟨3, by kernel_rfl⟩
theorem FL2.sl36 : slB Tryd.prog 36 1 = true := by kernel_rfl
theorem FL2.sc3 : scalarT Tryd.prog 3 = true := by kernel_rfl
theorem FL2.call24 : callB Tryd.prog 24 = true := by kernel_rfl
theorem FL2.isl22 : ∃ el, Tryd.prog.underlying 22 = some (.slice el) := ⟨5, by kernel_rfl⟩
theorem FL2.sl22 : slB Tryd.prog 22 1 = true := by kernel_rfl
theorem FL2.call25 : callB Tryd.prog 25 = true := by kernel_rfl
theorem FL2.mixed : Tryd.prog.follows .mixedOrders = true := by kernel_rfl
theorem FL2.call26 : callB Tryd.prog 26 = true := by kernel_rfl
theorem FL2.call27 : callB Tryd.prog 27 = true := by kernel_rfl
theorem FL2.arrI32 : arrIB Tryd.prog 32 32 .u8 = true := by kernel_rfl
theorem FL2.agg32 : aggT Tryd.prog 32 32 = true := by kernel_rfl
theorem FL2.call30 : callB Tryd.prog 30 = true := by kernel_rfl
theorem FL2.call31 : callB Tryd.prog 31 = true := by kernel_rfl

theorem short_l {B : Nat} {w0 w : World} {L : List Rg} {a : Option Addr} {len cc N : Nat} {X : List Byte} (h : St B w0 L w) (hB : Bs L a len cc (lit X)) (hl : X.length = len) :
    Calls Tryd.prog 18 #[.slice a len cc, VN N] w fun e w' => ∃ p : Option Addr × Nat, e = .returned (.slice p.1 (X.take N).length p.2) ∧ St B w0 L w' ∧ Bs L p.1 (X.take N).length p.2 (lit (X.take N)) := by
  refine (short_spec (N := N) h hB).mono fun e w' => ?_
  rintro ⟨q, he, hs, hb⟩
  have e1 : min len N = (X.take N).length := by rw [List.length_take, hl, Nat.min_comm]
  rw [e1] at he hb
  refine ⟨q, he, hs, hb.congr fun j hj => ?_⟩
  rw [List.length_take] at hj
  unfold lit
  simp [List.getD_eq_getElem?_getD, List.getElem?_take, show j < N by omega]

def restN (n : Int) (k : Nat) : Nat := ((n.tmod k + k).tmod k).toNat
theorem restN_lt (n : Int) {k : Nat} (hk : 0 < k) : restN n k < k := by
  unfold restN
  have h1 := Int.tmod_lt_of_pos n (show (0 : Int) < k by omega)
  have h2 := Int.lt_tmod_of_pos n (show (0 : Int) < k by omega)
  have h3 := Int.tmod_lt_of_pos (n.tmod k + k) (show (0 : Int) < k by omega)
  omega

set_option maxRecDepth 8000 in
set_option maxHeartbeats 1000000 in
theorem rest_spec {n : Int} {k : Nat} (hn : -9223372036854775808 ≤ n ∧ n ≤ 9223372036854775807) (hk : 0 < k ∧ k < 1000000) (w : World) :
    Calls Tryd.prog 24 #[.int .i64 n, VN k] w fun e w' => e = .returned (VN (restN n k)) ∧ w' = w := by
  refine W.enter 12 Tryd.func24 rfl rfl rfl ?_
  have h1 := Int.tmod_lt_of_pos n (show (0 : Int) < k by omega)
  have h2 := Int.lt_tmod_of_pos n (show (0 : Int) < k by omega)
  have h3 := Int.tmod_nonneg (k : Int) (show (0 : Int) ≤ n.tmod k + k by omega)
  refine W.seq_k fun K1 hK1 => ?_
  refine W.regionT [(0, true)] (by kernel_rfl) ?_
  refine Plan.assign_int rfl rfl ?_
  refine Plan.nil ?_
  refine hK1 _ _ ?_; clear hK1
  refine W.seq_k fun K2 hK2 => ?_
  refine W.regionT [(0, true), (1, true), (2, true), (3, true), (4, true), (5, true), (6, true), (7, true)] (by kernel_rfl) ?_
  refine Plan.move_int rfl rfl ?_
  refine Plan.move_int rfl rfl ?_
  refine Plan.remI rfl rfl rfl (by omega) ?_
  refine Plan.move_int rfl rfl ?_
  refine Plan.addI rfl rfl rfl (by omega) ?_
  refine Plan.move_int rfl rfl ?_
  refine Plan.remI rfl rfl rfl (by omega) ?_
  refine Plan.assign_int rfl rfl ?_
  refine Plan.nil ?_
  refine hK2 _ _ ?_; clear hK2
  refine W.ret (finR_ret ?_)
  refine RetOk.mk (.tmp_int rfl .nil) ?_
  refine ⟨?_, rfl⟩
  exact congrArg (fun z => Ending.returned (Value.int .i64 z)) (Int.toNat_of_nonneg h3).symm


set_option maxRecDepth 8000 in
set_option maxHeartbeats 1000000 in
theorem pieces_spec {B : Nat} {w0 w : World} {L : List Rg} {KK : Nat → BitVec 32} {iG : Nat} (hG : L[iG]? = some ⟨some 0, 0, 64, fun q => VU .u32 (KK q), false⟩) {i1 : Nat} (hH : L[i1]? = some ⟨some 1, 0, 8, fun q => VU .u32 (H256 q), false⟩) {aM : Option Addr} {nM cM : Nat} {MM : Nat → Byte} (hBM : Bs L aM nM cM MM) {aC : Option Addr} {nC cC : Nat} {zC : List Int} (hIC : Is L aC nC zC) (h : St B w0 L w) :
    Calls Tryd.prog 4 #[.slice aM nM cM, .slice aC nC cC] w fun e w' => e = .returned (.bool true) ∧ St B w0 L w' := by
  refine W.enter 100 Tryd.func4 rfl rfl rfl ?_
  obtain ⟨XM, hlM, hXM⟩ := hBM.list
  subst hlM
  obtain ⟨iC, pC, oC, mC, hC, hslC, hnC, hn63, hwC⟩ := hIC
  refine W.seq_k fun K1 hK1 => ?_
  refine W.regionT [(0, true)] (by kernel_rfl) ?_
  refine Plan.assign_bool rfl rfl ?_
  refine Plan.nil ?_
  refine hK1 _ _ ?_; clear hK1
  refine W.seq_k fun K2 hK2 => ?_
  refine W.seq_k fun K3 hK3 => ?_
  refine W.regionT [(0, false), (1, true)] (by kernel_rfl) ?_
  refine Plan.callS rfl FL2.call17 rfl (moves_spec (iG := (iG + 0)) hG (i1 := (i1 + 0)) hH h) PIn.nil fun w1 h1 => ?_
  refine Plan.notT rfl rfl ?_
  refine Plan.nil ?_
  refine hK3 _ _ ?_; clear hK3
  refine W.condF rfl ?_
  refine W.skip ?_
  refine hK2 _ _ ?_; clear hK2
  refine W.seq_k fun K4 hK4 => ?_
  refine W.regionT [(0, true), (1, false), (2, true)] (by kernel_rfl) ?_
  refine Plan.move_slice rfl rfl ?_
  refine Plan.callE rfl FL2.call18 rfl (short_l h1 hXM rfl) (fun b => PIn.nil) fun p2 w2 h2 hsm => ?_
  obtain ⟨am, cm⟩ := p2
  simp only at hsm
  have hlm : (XM.take 3000).length ≤ 3000 := by rw [List.length_take]; omega
  generalize XM.take 3000 = m at *
  have hcm := hsm.le
  refine Plan.assign_slice rfl rfl ?_
  refine Plan.nil ?_
  refine hK4 _ _ ?_; clear hK4
  refine W.seq_k fun K5 hK5 => ?_
  refine W.regionT [(0, true), (1, false), (2, false), (3, false), (4, false)] (by kernel_rfl) ?_
  refine Plan.move_slice rfl rfl ?_
  refine Plan.buildSlice h2 (ps := [(1, fun i => .slice ((fun i => ([am] : List (Option Addr)).getD i none) i) ((fun i => [m.length].getD i 0) i) ((fun i => [cm].getD i 0) i))]) FL2.slu75 FL2.sz22 FL2.zv22 (by decide) (by decide) rfl rfl rfl (EffO.keep PIn.nil) fun b3 w3 hb3 h3 => ?_
  simp only [rngs, List.cons_append, List.nil_append] at h3
  refine Plan.callS rfl FL2.call21 rfl (sumall_z (Z := m) (iG := (iG + 1)) hG (i1 := (i1 + 1)) hH (iP := 0) (pa := fun i => ([am] : List (Option Addr)).getD i none) (pl := fun i => [m.length].getD i 0) (pc := fun i => [cm].getD i 0) (X := fun i => ([m] : List (List Byte)).getD i []) h3 rfl (fun _ => ⟨_, rfl, rfl⟩) (Nat.le_refl _) (by decide) (fun i hi => match i, hi with | 0, _ => ⟨(hsm.app [_]), rfl⟩ | k + 1, hk => absurd hk (by omega)) (by simp [List.range_succ]) (by first | omega | (simp only [seg, List.length_append, List.length_drop, List.length_take, List.length_nil, List.length_cons, List.length_replicate]; omega))) PIn.nil fun w4 h4 => ?_
  refine Plan.alloc h4 rfl FL2.z32 PIn.nil fun b5 w5 hb5 h5 => ?_
  simp only [rngs, Nat.zero_add, Nat.reduceAdd, List.cons_append, List.nil_append] at h5
  refine Plan.storeA h5 0 rfl rfl rfl rfl (fun _ _ => rfl) FL2.sz32 rfl fun w6 h6 => ?_
  simp only [List.set_cons_zero, List.set_cons_succ] at h6
  refine Plan.nil ?_
  refine hK5 _ _ ?_; clear hK5
  refine W.seq_k fun K6 hK6 => ?_
  refine W.regionT [(0, false), (1, true)] (by kernel_rfl) ?_
  refine Plan.callE rfl FL2.call23 rfl (new_spec (i1 := (i1 + 2)) hH h6) (fun b => PIn.nil) fun b7 w7 h7 hb7 => ?_
  refine Plan.assign_ptr rfl rfl ?_
  refine Plan.nil ?_
  refine hK6 _ _ ?_; clear hK6
  refine W.seq_k fun K7 hK7 => ?_
  refine W.seq_k fun K8 hK8 => ?_
  refine W.regionT [(0, true), (1, true)] (by kernel_rfl) ?_
  refine Plan.move_ptr rfl rfl ?_
  refine Plan.eqNil (b := false) FL2.ptr37 rfl rfl rfl rfl ?_
  refine Plan.nil ?_
  refine hK8 _ _ ?_; clear hK8
  refine W.condF rfl ?_
  refine W.skip ?_
  refine hK7 _ _ ?_; clear hK7
  refine W.seq_k fun K9 hK9 => ?_
  refine W.regionT [(0, true)] (by kernel_rfl) ?_
  refine Plan.assign_int rfl rfl ?_
  refine Plan.nil ?_
  refine hK9 _ _ ?_; clear hK9
  refine W.seq_k fun K10 hK10 => ?_
  have h8 := St.pickT (C := [_, _, _, _, _]) h7 [0, 1, 2, 3] (by decide)
  simp only [pick, List.filterMap_cons, List.filterMap_nil, List.getElem?_cons_zero, List.getElem?_cons_succ, List.cons_append, List.nil_append] at h8
  refine W.cut (fun e w => ∃ (t : Nat) (st' : Nat → BitVec 32) (blk' : Nat → BitVec 8), (t ≤ m.length) ∧ (HoldsL KK H256 (m.take t) st' blk') ∧ EnvHas e [(0, .slice am m.length cm), (1, .slice aC nC cC), (5, .pointer (some ⟨b5, 0, none⟩)), (6, .pointer (some ⟨b7, 0, none⟩)), (7, VN t)] ∧ St B w0 (⟨some b7, 0, 8, fun q => VU .u32 (st' q), true⟩ :: ⟨some b7, 8, 64, fun q => VU .u8 (blk' q), true⟩ :: ⟨some b7, 72, 1, fun _ => VN ((m.take t).length), true⟩ :: ⟨some b5, 0, 32, fun q => VU .u8 (shaL KK H256 m q), true⟩ :: L) w) ?_ ?_
  ·
    refine W.seq_k fun K11 hK11 => ?_
    refine W.regionT [(0, true)] (by kernel_rfl) ?_
    refine Plan.assign_int rfl rfl ?_
    refine Plan.nil ?_
    refine hK11 _ _ ?_; clear hK11
    refine W.block ?_
    refine W.loop (fun mR e w => ∃ (t i : Nat) (st' : Nat → BitVec 32) (blk' : Nat → BitVec 8), mR = nC - i ∧ (t ≤ m.length) ∧ (i ≤ nC) ∧ (HoldsL KK H256 (m.take t) st' blk') ∧ EnvHas e [(0, .slice am m.length cm), (1, .slice aC nC cC), (5, .pointer (some ⟨b5, 0, none⟩)), (6, .pointer (some ⟨b7, 0, none⟩)), (7, VN t), (8, VN i)] ∧ St B w0 (⟨some b7, 0, 8, fun q => VU .u32 (st' q), true⟩ :: ⟨some b7, 8, 64, fun q => VU .u8 (blk' q), true⟩ :: ⟨some b7, 72, 1, fun _ => VN ((m.take t).length), true⟩ :: ⟨some b5, 0, 32, fun q => VU .u8 (shaL KK H256 m q), true⟩ :: L) w) (_) ⟨0, 0, _, _, rfl, by omega, by omega, (HoldsL.new _ _ _), (EnvHas.cons rfl (EnvHas.cons rfl (EnvHas.cons rfl (EnvHas.cons rfl (EnvHas.cons rfl (EnvHas.cons rfl EnvHas.nil)))))), h8⟩ ?_
    rintro _ ev9 wl9 ⟨t, i, st', blk', rfl, hat, hi, hI', he9, h9⟩
    obtain ⟨ev9, rfl⟩ := he9.open
    have htl := take_len hat
    refine W.seq_k fun K12 hK12 => ?_
    refine W.seq_k fun K13 hK13 => ?_
    refine W.regionT [(0, true), (1, true), (2, true), (3, true), (4, true), (5, true), (6, true), (7, true)] (by kernel_rfl) ?_
    refine Plan.move_int rfl rfl ?_
    refine Plan.move_slice rfl rfl ?_
    refine Plan.len FL2.isl36 rfl rfl ?_
    refine Plan.ltS rfl rfl rfl ?_ ?_
    ·
      intro hc10
      obtain ⟨bC, hbC1, hbC2⟩ := hslC (by omega)
      subst hbC1 hbC2
      have hwC1 := hwC i (by omega)
      refine Plan.move_bool rfl rfl ?_
      refine Plan.move_int rfl rfl ?_
      refine Plan.ltS rfl rfl rfl ?_ ?_
      ·
        intro hc11
        refine Plan.pickTb rfl rfl rfl ?_
        refine Plan.nil ?_
        refine hK13 _ _ ?_; clear hK13
        refine W.condT rfl ?_
        refine W.skip ?_
        refine hK12 _ _ ?_; clear hK12
        refine W.seq_k fun K14 hK14 => ?_
        refine W.block ?_
        refine W.seq_k fun K15 hK15 => ?_
        refine W.regionT [(0, true), (1, true), (2, true), (3, true), (4, false), (5, true)] (by kernel_rfl) ?_
        refine Plan.move_slice rfl rfl ?_
        refine Plan.move_int rfl rfl ?_
        refine Plan.idxSl1 FL2.sl36 rfl rfl rfl (by omega) ?_
        refine Plan.load1 h9 (iC + 4) rfl rfl hC (by omega) FL2.sc3 ?_
        refine Plan.call0 rfl FL2.call24 rfl (rest_spec (n := zC.getD i 0) (by exact hwC1) (by decide) _) ?_
        have hr9 := restN_lt (zC.getD i 0) (k := 130) (by decide)
        generalize restN (zC.getD i 0) 130 = r at *
        refine Plan.assign_int rfl rfl ?_
        refine Plan.nil ?_
        refine hK15 _ _ ?_; clear hK15
        refine W.seq_k fun K16 hK16 => ?_
        refine W.regionT [(0, true), (1, true), (2, true), (3, true), (4, true), (5, true), (6, true)] (by kernel_rfl) ?_
        refine Plan.move_int rfl rfl ?_
        refine Plan.move_slice rfl rfl ?_
        refine Plan.len FL2.isl22 rfl rfl ?_
        refine Plan.move_int rfl rfl ?_
        refine Plan.subN rfl rfl rfl (by omega) ?_
        refine Plan.minN rfl rfl rfl ?_
        refine Plan.assign_int rfl rfl ?_
        refine Plan.nil ?_
        refine hK16 _ _ ?_; clear hK16
        refine W.seq_k fun K17 hK17 => ?_
        refine W.regionT [(0, true), (1, true), (2, true), (3, true), (4, true), (5, true), (6, true), (7, false)] (by kernel_rfl) ?_
        refine Plan.move_ptr rfl rfl ?_
        refine Plan.move_slice rfl rfl ?_
        refine Plan.move_int rfl rfl ?_
        refine Plan.move_int rfl rfl ?_
        refine Plan.move_int rfl rfl ?_
        refine Plan.addN rfl rfl rfl (by omega) ?_
        refine Plan.slSl FL2.sl22 rfl rfl ⟨_, rfl⟩ ⟨_, rfl⟩ (by omega) ?_
        refine Plan.callE rfl FL2.call25 rfl (write_l (X := (m.take t)) (Y := (seg m t (t + min r (m.length - t)))) (iG := iG + 1) hG h9 (Bs.seg (lo := t) (hi := (t + min r (m.length - t))) (hsm.app [_]) rfl (by omega)) (seg_length (by omega)) (by first | omega | (simp only [seg, List.length_append, List.length_drop, List.length_take, List.length_nil, List.length_cons, List.length_replicate]; omega)) hI') (fun sb => PIn.nil) fun sb12 w12 h12 hI12 => ?_
        rw [show ((m.take t) ++ (seg m t (t + min r (m.length - t)))) = (m.take (t + min r (m.length - t))) from take_seg (by omega)] at h12 hI12
        have htl2 := take_len (X := m) (a := (t + min r (m.length - t))) (by omega)
        refine Plan.nil ?_
        refine hK17 _ _ ?_; clear hK17
        refine W.seq_k fun K18 hK18 => ?_
        refine W.regionT [(0, true), (1, true), (2, true), (3, true)] (by kernel_rfl) ?_
        refine Plan.move_int rfl rfl ?_
        refine Plan.move_int rfl rfl ?_
        refine Plan.addN rfl rfl rfl (by omega) ?_
        refine Plan.assign_int rfl rfl ?_
        refine Plan.nil ?_
        refine hK18 _ _ ?_; clear hK18
        refine W.seq_k fun K19 hK19 => ?_
        refine W.regionF FL2.mixed (.fork [(0, true), (2, true), (1, false), (3, true), (4, true), (5, true), (7, true), (8, true), (9, true)] (.line [(6, false), (10, false), (11, false), (12, true), (13, true)]) (.line [(10, false), (6, false), (11, false), (12, true), (13, true)])) (by kernel_rfl) (PlanT.toFork ?_)
        have h13 := h12.drew
        refine Plan.move_ptr rfl rfl ?_
        refine Plan.move_int rfl rfl ?_
        refine Plan.call0 rfl FL2.call26 rfl (len_spec h13) ?_
        refine Plan.neF rfl rfl rfl (by first | omega | (simp only [List.length_append, List.length_nil, List.length_cons] <;> omega)) ?_
        refine Plan.move_bool rfl rfl ?_
        refine Plan.move_ptr rfl rfl ?_
        refine Plan.move_slice rfl rfl ?_
        refine Plan.move_int rfl rfl ?_
        refine Plan.slSl FL2.sl22 rfl rfl rfl ⟨_, rfl⟩ (by omega) ?_
        refine Plan.forked ?_ ?_
        ·
          refine PlanT.toLine ?_
          refine Plan.callS rfl FL2.call27 rfl (sum_l (X := (m.take (t + min r (m.length - t)))) (iG := iG + 1) hG h13 hI12 (by first | omega | (simp only [seg, List.length_append, List.length_drop, List.length_take, List.length_nil, List.length_cons, List.length_replicate]; omega))) PIn.nil fun w14 h14 => ?_
          refine Plan.buildSlice h14 (ps := [(1, fun i => .slice ((fun i => ([(if cm = 0 then am else (am).map (·.add (0 * 1)))] : List (Option Addr)).getD i none) i) ((fun i => [((t + min r (m.length - t)) - 0)].getD i 0) i) ((fun i => [(cm - 0)].getD i 0) i))]) FL2.slu75 FL2.sz22 FL2.zv22 (by decide) (by decide) rfl rfl rfl (EffO.keep PIn.nil) fun b15 w15 hb15 h15 => ?_
          simp only [rngs, List.cons_append, List.nil_append] at h15
          refine Plan.callS rfl FL2.call21 rfl (sumall_z (Z := (seg m 0 (t + min r (m.length - t)))) (iG := (iG + 5)) hG (i1 := (i1 + 5)) hH (iP := 0) (pa := fun i => ([(if cm = 0 then am else (am).map (·.add (0 * 1)))] : List (Option Addr)).getD i none) (pl := fun i => [((t + min r (m.length - t)) - 0)].getD i 0) (pc := fun i => [(cm - 0)].getD i 0) (X := fun i => ([(seg m 0 (t + min r (m.length - t)))] : List (List Byte)).getD i []) h15 rfl (fun _ => ⟨_, rfl, rfl⟩) (Nat.le_refl _) (by decide) (fun i hi => match i, hi with | 0, _ => ⟨(Bs.seg (lo := 0) (hi := (t + min r (m.length - t))) (hsm.app [_, _, _, _, _]) rfl (by omega)), (seg_length (by omega))⟩ | k + 1, hk => absurd hk (by omega)) (by simp [List.range_succ]) (by first | omega | (simp only [seg, List.length_append, List.length_drop, List.length_take, List.length_nil, List.length_cons, List.length_replicate]; omega))) PIn.nil fun w16 h16 => ?_
          refine Plan.neArrF FL2.arrI32 rfl rfl rfl (shaL_congr (by rw [seg_zero])) ?_
          refine Plan.pickFb rfl rfl rfl ?_
          refine Plan.nil ?_
          refine hK19 _ _ ?_; clear hK19
          refine W.condF rfl ?_
          refine W.skip ?_
          refine blockR_norm ?_
          refine hK14 _ _ ?_; clear hK14
          refine W.regionT [(0, true), (1, true), (2, true)] (by kernel_rfl) ?_
          refine Plan.move_int rfl rfl ?_
          refine Plan.addN (b := 1) rfl rfl rfl (by omega) ?_
          refine Plan.assign_int rfl rfl ?_
          refine Plan.nil ?_
          refine thenR_norm ?_
          have h17 := St.pickT (C := [_, _, _, _, _]) h16 [1, 2, 3, 4] (by decide)
          simp only [pick, List.filterMap_cons, List.filterMap_nil, List.getElem?_cons_zero, List.getElem?_cons_succ, List.cons_append, List.nil_append] at h17
          refine ⟨_, ?_, t + min r (m.length - t), i + 1, _, _, rfl, by omega, by omega, hI12, (EnvHas.cons rfl (EnvHas.cons rfl (EnvHas.cons rfl (EnvHas.cons rfl (EnvHas.cons rfl (EnvHas.cons rfl EnvHas.nil)))))), h17⟩
          omega
        ·
          refine PlanT.toLine ?_
          refine Plan.buildSlice h13 (ps := [(1, fun i => .slice ((fun i => ([(if cm = 0 then am else (am).map (·.add (0 * 1)))] : List (Option Addr)).getD i none) i) ((fun i => [((t + min r (m.length - t)) - 0)].getD i 0) i) ((fun i => [(cm - 0)].getD i 0) i))]) FL2.slu75 FL2.sz22 FL2.zv22 (by decide) (by decide) rfl rfl rfl (EffO.keep PIn.nil) fun b18 w18 hb18 h18 => ?_
          simp only [rngs, List.cons_append, List.nil_append] at h18
          have h19 := St.pickT (C := [_, _, _, _, _]) h18 [1, 2, 3, 0, 4] (by decide)
          simp only [pick, List.filterMap_cons, List.filterMap_nil, List.getElem?_cons_zero, List.getElem?_cons_succ, List.cons_append, List.nil_append] at h19
          refine Plan.callS rfl FL2.call27 rfl (sum_l (X := (m.take (t + min r (m.length - t)))) (iG := iG + 2) hG h19 hI12 (by first | omega | (simp only [seg, List.length_append, List.length_drop, List.length_take, List.length_nil, List.length_cons, List.length_replicate]; omega))) PIn.nil fun w20 h20 => ?_
          refine Plan.callS rfl FL2.call21 rfl (sumall_z (Z := (seg m 0 (t + min r (m.length - t)))) (iG := (iG + 5)) hG (i1 := (i1 + 5)) hH (iP := 3) (pa := fun i => ([(if cm = 0 then am else (am).map (·.add (0 * 1)))] : List (Option Addr)).getD i none) (pl := fun i => [((t + min r (m.length - t)) - 0)].getD i 0) (pc := fun i => [(cm - 0)].getD i 0) (X := fun i => ([(seg m 0 (t + min r (m.length - t)))] : List (List Byte)).getD i []) h20 rfl (fun _ => ⟨_, rfl, rfl⟩) (Nat.le_refl _) (by decide) (fun i hi => match i, hi with | 0, _ => ⟨(Bs.seg (lo := 0) (hi := (t + min r (m.length - t))) (hsm.app [_, _, _, _, _]) rfl (by omega)), (seg_length (by omega))⟩ | k + 1, hk => absurd hk (by omega)) (by simp [List.range_succ]) (by first | omega | (simp only [seg, List.length_append, List.length_drop, List.length_take, List.length_nil, List.length_cons, List.length_replicate]; omega))) PIn.nil fun w21 h21 => ?_
          refine Plan.neArrF FL2.arrI32 rfl rfl rfl (shaL_congr (by rw [seg_zero])) ?_
          refine Plan.pickFb rfl rfl rfl ?_
          refine Plan.nil ?_
          refine hK19 _ _ ?_; clear hK19
          refine W.condF rfl ?_
          refine W.skip ?_
          refine blockR_norm ?_
          refine hK14 _ _ ?_; clear hK14
          refine W.regionT [(0, true), (1, true), (2, true)] (by kernel_rfl) ?_
          refine Plan.move_int rfl rfl ?_
          refine Plan.addN (b := 1) rfl rfl rfl (by omega) ?_
          refine Plan.assign_int rfl rfl ?_
          refine Plan.nil ?_
          refine thenR_norm ?_
          have h22 := St.pickT (C := [_, _, _, _, _]) h21 [0, 1, 2, 4] (by decide)
          simp only [pick, List.filterMap_cons, List.filterMap_nil, List.getElem?_cons_zero, List.getElem?_cons_succ, List.cons_append, List.nil_append] at h22
          refine ⟨_, ?_, t + min r (m.length - t), i + 1, _, _, rfl, by omega, by omega, hI12, (EnvHas.cons rfl (EnvHas.cons rfl (EnvHas.cons rfl (EnvHas.cons rfl (EnvHas.cons rfl (EnvHas.cons rfl EnvHas.nil)))))), h22⟩
          omega
      ·
        intro hc23
        refine Plan.pickTb rfl rfl rfl ?_
        refine Plan.nil ?_
        refine hK13 _ _ ?_; clear hK13
        refine W.condF rfl ?_
        refine W.exit (thenR_exit (thenR_exit (blockR_here ?_)))
        refine thenR_norm ?_
        exact ⟨t, _, _, hat, hI', (EnvHas.cons rfl (EnvHas.cons rfl (EnvHas.cons rfl (EnvHas.cons rfl (EnvHas.cons rfl EnvHas.nil))))), h9⟩
    ·
      intro hc24
      refine Plan.move_bool rfl rfl ?_
      refine Plan.passed rfl ?_
      refine Plan.passed rfl ?_
      refine Plan.pickFb rfl rfl rfl ?_
      refine Plan.nil ?_
      refine hK13 _ _ ?_; clear hK13
      refine W.condF rfl ?_
      refine W.exit (thenR_exit (thenR_exit (blockR_here ?_)))
      refine thenR_norm ?_
      exact ⟨t, _, _, hat, hI', (EnvHas.cons rfl (EnvHas.cons rfl (EnvHas.cons rfl (EnvHas.cons rfl (EnvHas.cons rfl EnvHas.nil))))), h9⟩
  · -- behind the loop
    rintro ev25 wl25 ⟨t, st', blk', hat, hI', he25, h25⟩
    obtain ⟨ev25, rfl⟩ := he25.open
    refine hK10 _ _ ?_; clear hK10
    have htl := take_len hat
    refine W.seq_k fun K20 hK20 => ?_
    refine W.regionT [(0, true), (1, true), (2, true), (3, true), (4, false)] (by kernel_rfl) ?_
    refine Plan.move_ptr rfl rfl ?_
    refine Plan.move_slice rfl rfl ?_
    refine Plan.move_int rfl rfl ?_
    refine Plan.slSl FL2.sl22 rfl rfl ⟨_, rfl⟩ rfl (by omega) ?_
    refine Plan.callE rfl FL2.call25 rfl (write_l (X := (m.take t)) (Y := (seg m t m.length)) (iG := iG + 1) hG h25 (Bs.seg (lo := t) (hi := m.length) (hsm.app [_]) rfl (by omega)) (seg_length (by omega)) (by first | omega | (simp only [seg, List.length_append, List.length_drop, List.length_take, List.length_nil, List.length_cons, List.length_replicate]; omega)) hI') (fun sb => PIn.nil) fun sb26 w26 h26 hI26 => ?_
    rw [show ((m.take t) ++ (seg m t m.length)) = m from (take_seg (by omega)).trans (List.take_length)] at h26 hI26
    refine Plan.nil ?_
    refine hK20 _ _ ?_; clear hK20
    refine W.seq_k fun K21 hK21 => ?_
    refine W.regionD FL2.mixed [(0, true), (2, true), (3, true), (1, false), (4, true), (5, true), (6, true), (8, true), (7, false), (9, true), (10, true), (11, true), (12, true), (14, true), (13, false), (15, true), (16, true), (17, true), (18, true), (19, true), (20, true), (21, true), (22, true), (23, true), (26, true), (24, false), (25, false), (27, true), (28, true), (29, true)] (by kernel_rfl) ?_
    have h27 := h26.drew
    refine Plan.move_ptr rfl rfl ?_
    refine Plan.move_slice rfl rfl ?_
    refine Plan.len FL2.isl22 rfl rfl ?_
    refine Plan.call0 rfl FL2.call26 rfl (len_spec h27) ?_
    refine Plan.eqT rfl rfl rfl (by first | omega | (simp only [List.length_append, List.length_nil, List.length_cons] <;> omega)) ?_
    refine Plan.move_bool rfl rfl ?_
    refine Plan.move_ptr rfl rfl ?_
    refine Plan.loadA1 h27 3 rfl rfl rfl FL2.agg32 ?_
    refine Plan.callS rfl FL2.call27 rfl (sum_l (X := m) (iG := iG + 1) hG h27 hI26 (by first | omega | (simp only [seg, List.length_append, List.length_drop, List.length_take, List.length_nil, List.length_cons, List.length_replicate]; omega))) (PIn.cons 3 rfl PIn.nil) fun w28 h28 => ?_
    refine Plan.eqArrT FL2.arrI32 rfl rfl rfl (fun _ _ => rfl) ?_
    refine Plan.pickTb rfl rfl rfl ?_
    refine Plan.move_bool rfl rfl ?_
    refine Plan.move_ptr rfl rfl ?_
    refine Plan.loadA1 h28 3 rfl rfl rfl FL2.agg32 ?_
    refine Plan.callS rfl FL2.call27 rfl (sum_l (X := m) (iG := iG + 1) hG h28 hI26 (by first | omega | (simp only [seg, List.length_append, List.length_drop, List.length_take, List.length_nil, List.length_cons, List.length_replicate]; omega))) (PIn.cons 3 rfl (PIn.cons 3 rfl PIn.nil)) fun w29 h29 => ?_
    refine Plan.eqArrT FL2.arrI32 rfl rfl rfl (fun _ _ => rfl) ?_
    refine Plan.pickTb rfl rfl rfl ?_
    refine Plan.move_bool rfl rfl ?_
    refine Plan.move_slice rfl rfl ?_
    refine Plan.move_int rfl rfl ?_
    refine Plan.slSl FL2.sl22 rfl rfl rfl ⟨_, rfl⟩ (by omega) ?_
    refine Plan.move_slice rfl rfl ?_
    refine Plan.move_int rfl rfl ?_
    refine Plan.slSl FL2.sl22 rfl rfl ⟨_, rfl⟩ rfl (by omega) ?_
    refine Plan.loadA1 h29 3 rfl rfl rfl FL2.agg32 ?_
    refine Plan.buildSlice h29 (ps := [(3, fun i => .slice ((fun i => ([(if cm = 0 then am else (am).map (·.add (0 * 1))), none, (if cm = t then am else (am).map (·.add (t * 1)))] : List (Option Addr)).getD i none) i) ((fun i => [(t - 0), 0, (m.length - t)].getD i 0) i) ((fun i => [(cm - 0), 0, (cm - t)].getD i 0) i))]) FL2.slu75 FL2.sz22 FL2.zv22 (by decide) (by decide) rfl rfl rfl (EffO.keep (PIn.cons 3 rfl (PIn.cons 3 rfl (PIn.cons 3 rfl PIn.nil)))) fun b30 w30 hb30 h30 => ?_
    simp only [rngs, List.cons_append, List.nil_append] at h30
    refine Plan.callS rfl FL2.call21 rfl (sumall_z (Z := (seg m 0 t) ++ ([] : List Byte) ++ (seg m t m.length)) (iG := (iG + 5)) hG (i1 := (i1 + 5)) hH (iP := 0) (pa := fun i => ([(if cm = 0 then am else (am).map (·.add (0 * 1))), none, (if cm = t then am else (am).map (·.add (t * 1)))] : List (Option Addr)).getD i none) (pl := fun i => [(t - 0), 0, (m.length - t)].getD i 0) (pc := fun i => [(cm - 0), 0, (cm - t)].getD i 0) (X := fun i => ([(seg m 0 t), ([] : List Byte), (seg m t m.length)] : List (List Byte)).getD i []) h30 rfl (fun _ => ⟨_, rfl, rfl⟩) (Nat.le_refl _) (by decide) (fun i hi => match i, hi with | 0, _ => ⟨(Bs.seg (lo := 0) (hi := t) (hsm.app [_, _, _, _, _]) rfl (by omega)), (seg_length (by omega))⟩ | 1, _ => ⟨(Bs.nilL (hsm.app [_, _, _, _, _]) _), rfl⟩ | 2, _ => ⟨(Bs.seg (lo := t) (hi := m.length) (hsm.app [_, _, _, _, _]) rfl (by omega)), (seg_length (by omega))⟩ | k + 3, hk => absurd hk (by omega)) (by simp [List.range_succ]) (by first | omega | (simp only [seg, List.length_append, List.length_drop, List.length_take, List.length_nil, List.length_cons, List.length_replicate]; omega))) (PIn.cons 4 rfl (PIn.cons 4 rfl (PIn.cons 4 rfl PIn.nil))) fun w31 h31 => ?_
    refine Plan.eqArrT FL2.arrI32 rfl rfl rfl (shaL_congr (by rw [seg_zero, List.append_nil]; exact (take_seg (by omega)).trans (List.take_length))) ?_
    refine Plan.pickTb rfl rfl rfl ?_
    refine Plan.assign_bool rfl rfl ?_
    refine Plan.nil ?_
    refine hK21 _ _ ?_; clear hK21
    refine W.ret (finR_ret ?_)
    refine RetOk.mk (.tmp_bool rfl .nil) ?_
    exact ⟨rfl, h31.tl.tl.tl.tl.tl⟩


set_option maxRecDepth 8000 in
set_option maxHeartbeats 2000000 in
theorem apart_spec {B : Nat} {w0 w : World} {L : List Rg} {KK : Nat → BitVec 32} {iG : Nat} (hG : L[iG]? = some ⟨some 0, 0, 64, fun q => VU .u32 (KK q), false⟩) {i1 : Nat} (hH : L[i1]? = some ⟨some 1, 0, 8, fun q => VU .u32 (H256 q), false⟩) {aA : Option Addr} {nA cA : Nat} {MA : Nat → Byte} (hBA : Bs L aA nA cA MA) {aB : Option Addr} {nB cB : Nat} {MB : Nat → Byte} (hBB : Bs L aB nB cB MB) {aC : Option Addr} {nC cC : Nat} {MC : Nat → Byte} (hBC : Bs L aC nC cC MC) (h : St B w0 L w) :
    Calls Tryd.prog 7 #[.slice aA nA cA, .slice aB nB cB, .slice aC nC cC] w fun e w' => e = .returned (.bool true) ∧ St B w0 L w' := by
  refine W.enter 105 Tryd.func7 rfl rfl rfl ?_
  obtain ⟨XA, hlA, hXA⟩ := hBA.list
  subst hlA
  obtain ⟨XB, hlB, hXB⟩ := hBB.list
  subst hlB
  obtain ⟨XC, hlC, hXC⟩ := hBC.list
  subst hlC
  refine W.seq_k fun K1 hK1 => ?_
  refine W.regionT [(0, true)] (by kernel_rfl) ?_
  refine Plan.assign_bool rfl rfl ?_
  refine Plan.nil ?_
  refine hK1 _ _ ?_; clear hK1
  refine W.seq_k fun K2 hK2 => ?_
  refine W.seq_k fun K3 hK3 => ?_
  refine W.regionT [(0, false), (1, true)] (by kernel_rfl) ?_
  refine Plan.callS rfl FL2.call17 rfl (moves_spec (iG := (iG + 0)) hG (i1 := (i1 + 0)) hH h) PIn.nil fun w1 h1 => ?_
  refine Plan.notT rfl rfl ?_
  refine Plan.nil ?_
  refine hK3 _ _ ?_; clear hK3
  refine W.condF rfl ?_
  refine W.skip ?_
  refine hK2 _ _ ?_; clear hK2
  refine W.seq_k fun K4 hK4 => ?_
  refine W.regionT [(0, true), (1, false), (2, true), (3, false), (4, true), (5, false), (6, true), (7, true), (8, true)] (by kernel_rfl) ?_
  refine Plan.move_slice rfl rfl ?_
  refine Plan.callE rfl FL2.call18 rfl (short_l h1 hXA rfl) (fun b => PIn.nil) fun p2 w2 h2 hsa => ?_
  obtain ⟨aa, ca⟩ := p2
  simp only at hsa
  have hla : (XA.take 500).length ≤ 500 := by rw [List.length_take]; omega
  generalize XA.take 500 = a at *
  have hca := hsa.le
  refine Plan.move_slice rfl rfl ?_
  refine Plan.callE rfl FL2.call18 rfl (short_l h2 hXB rfl) (fun b => PIn.nil) fun p3 w3 h3 hsb => ?_
  obtain ⟨ab, cb⟩ := p3
  simp only at hsb
  have hlb : (XB.take 500).length ≤ 500 := by rw [List.length_take]; omega
  generalize XB.take 500 = b at *
  have hcb := hsb.le
  refine Plan.move_slice rfl rfl ?_
  refine Plan.callE rfl FL2.call18 rfl (short_l h3 hXC rfl) (fun b => PIn.nil) fun p4 w4 h4 hsc => ?_
  obtain ⟨ac, cc⟩ := p4
  simp only at hsc
  have hlc : (XC.take 500).length ≤ 500 := by rw [List.length_take]; omega
  generalize XC.take 500 = c at *
  have hcc := hsc.le
  refine Plan.assign_slice rfl rfl ?_
  refine Plan.assign_slice rfl rfl ?_
  refine Plan.assign_slice rfl rfl ?_
  refine Plan.nil ?_
  refine hK4 _ _ ?_; clear hK4
  refine W.seq_k fun K5 hK5 => ?_
  refine W.regionT [(0, false), (1, true)] (by kernel_rfl) ?_
  refine Plan.callE rfl FL2.call23 rfl (new_spec (i1 := (i1 + 0)) hH h4) (fun b => PIn.nil) fun b5 w5 h5 hb5 => ?_
  refine Plan.assign_ptr rfl rfl ?_
  refine Plan.nil ?_
  refine hK5 _ _ ?_; clear hK5
  refine W.seq_k fun K6 hK6 => ?_
  refine W.seq_k fun K7 hK7 => ?_
  refine W.regionT [(0, true), (1, true)] (by kernel_rfl) ?_
  refine Plan.move_ptr rfl rfl ?_
  refine Plan.eqNil (b := false) FL2.ptr37 rfl rfl rfl rfl ?_
  refine Plan.nil ?_
  refine hK7 _ _ ?_; clear hK7
  refine W.condF rfl ?_
  refine W.skip ?_
  refine hK6 _ _ ?_; clear hK6
  refine W.seq_k fun K8 hK8 => ?_
  refine W.regionT [(0, true), (1, true), (2, false)] (by kernel_rfl) ?_
  refine Plan.move_ptr rfl rfl ?_
  refine Plan.move_slice rfl rfl ?_
  refine Plan.callE rfl FL2.call25 rfl (write_l (X := ([] : List Byte)) (Y := a) (iG := iG + 0) hG h5 hsa rfl (by first | omega | (simp only [seg, List.length_append, List.length_drop, List.length_take, List.length_nil, List.length_cons, List.length_replicate]; omega)) (HoldsL.new _ _ _)) (fun sb => PIn.nil) fun sb6 w6 h6 hI6 => ?_
  refine Plan.nil ?_
  refine hK8 _ _ ?_; clear hK8
  refine W.seq_k fun K9 hK9 => ?_
  refine W.regionT [(0, true), (1, false), (2, true)] (by kernel_rfl) ?_
  refine Plan.move_ptr rfl rfl ?_
  refine Plan.callE rfl FL2.call30 rfl (copy_spec h6) (fun b => PIn.nil) fun b7 w7 h7 hb7 => ?_
  refine Plan.assign_ptr rfl rfl ?_
  refine Plan.nil ?_
  refine hK9 _ _ ?_; clear hK9
  refine W.seq_k fun K10 hK10 => ?_
  refine W.seq_k fun K11 hK11 => ?_
  refine W.regionT [(0, true), (1, true)] (by kernel_rfl) ?_
  refine Plan.move_ptr rfl rfl ?_
  refine Plan.eqNil (b := false) FL2.ptr37 rfl rfl rfl rfl ?_
  refine Plan.nil ?_
  refine hK11 _ _ ?_; clear hK11
  refine W.condF rfl ?_
  refine W.skip ?_
  refine hK10 _ _ ?_; clear hK10
  refine W.seq_k fun K12 hK12 => ?_
  refine W.regionT [(0, true), (1, true), (2, false)] (by kernel_rfl) ?_
  refine Plan.move_ptr rfl rfl ?_
  refine Plan.move_slice rfl rfl ?_
  have h8 := St.pickT (C := [_, _, _, _, _, _]) h7 [3, 4, 5, 0, 1, 2] (by decide)
  simp only [pick, List.filterMap_cons, List.filterMap_nil, List.getElem?_cons_zero, List.getElem?_cons_succ, List.cons_append, List.nil_append] at h8
  refine Plan.callE rfl FL2.call25 rfl (write_l (X := (([] : List Byte) ++ a)) (Y := b) (iG := iG + 3) hG h8 (hsb.app [_, _, _]) rfl (by first | omega | (simp only [seg, List.length_append, List.length_drop, List.length_take, List.length_nil, List.length_cons, List.length_replicate]; omega)) hI6) (fun sb => PIn.nil) fun sb9 w9 h9 hI9 => ?_
  refine Plan.nil ?_
  refine hK12 _ _ ?_; clear hK12
  refine W.seq_k fun K13 hK13 => ?_
  refine W.regionT [(0, true), (1, true), (2, false)] (by kernel_rfl) ?_
  refine Plan.move_ptr rfl rfl ?_
  refine Plan.move_slice rfl rfl ?_
  have h10 := St.pickT (C := [_, _, _, _, _, _]) h9 [3, 4, 5, 0, 1, 2] (by decide)
  simp only [pick, List.filterMap_cons, List.filterMap_nil, List.getElem?_cons_zero, List.getElem?_cons_succ, List.cons_append, List.nil_append] at h10
  refine Plan.callE rfl FL2.call25 rfl (write_l (X := (([] : List Byte) ++ a)) (Y := c) (iG := iG + 3) hG h10 (hsc.app [_, _, _]) rfl (by first | omega | (simp only [seg, List.length_append, List.length_drop, List.length_take, List.length_nil, List.length_cons, List.length_replicate]; omega)) hI6) (fun sb => PIn.nil) fun sb11 w11 h11 hI11 => ?_
  refine Plan.nil ?_
  refine hK13 _ _ ?_; clear hK13
  refine W.seq_k fun K14 hK14 => ?_
  refine W.seq_k fun K15 hK15 => ?_
  refine W.regionT [(0, true), (1, false), (2, true), (3, true), (4, false), (5, false), (6, true), (7, true), (8, true), (9, false), (10, true), (11, true), (12, false), (13, false), (14, true), (15, true), (16, true), (17, true), (18, false), (19, true), (20, true), (21, true), (22, true), (23, true), (24, true), (25, true), (26, true), (27, true), (28, false), (29, true), (30, true), (31, true), (32, true), (33, true), (34, true), (35, true)] (by kernel_rfl) ?_
  refine Plan.move_ptr rfl rfl ?_
  have h12 := St.pickT (C := [_, _, _, _, _, _]) h11 [3, 4, 5, 0, 1, 2] (by decide)
  simp only [pick, List.filterMap_cons, List.filterMap_nil, List.getElem?_cons_zero, List.getElem?_cons_succ, List.cons_append, List.nil_append] at h12
  refine Plan.callS rfl FL2.call27 rfl (sum_l (X := ((([] : List Byte) ++ a) ++ b)) (iG := iG + 3) hG h12 hI9 (by first | omega | (simp only [seg, List.length_append, List.length_drop, List.length_take, List.length_nil, List.length_cons, List.length_replicate]; omega))) PIn.nil fun w13 h13 => ?_
  refine Plan.move_slice rfl rfl ?_
  refine Plan.move_slice rfl rfl ?_
  refine Plan.buildSlice h13 (ps := [(2, fun i => .slice ((fun i => ([aa, ab] : List (Option Addr)).getD i none) i) ((fun i => [a.length, b.length].getD i 0) i) ((fun i => [ca, cb].getD i 0) i))]) FL2.slu75 FL2.sz22 FL2.zv22 (by decide) (by decide) rfl rfl rfl (EffO.keep PIn.nil) fun b14 w14 hb14 h14 => ?_
  simp only [rngs, List.cons_append, List.nil_append] at h14
  refine Plan.callS rfl FL2.call21 rfl (sumall_z (Z := a ++ b) (iG := (iG + 7)) hG (i1 := (i1 + 7)) hH (iP := 0) (pa := fun i => ([aa, ab] : List (Option Addr)).getD i none) (pl := fun i => [a.length, b.length].getD i 0) (pc := fun i => [ca, cb].getD i 0) (X := fun i => ([a, b] : List (List Byte)).getD i []) h14 rfl (fun _ => ⟨_, rfl, rfl⟩) (Nat.le_refl _) (by decide) (fun i hi => match i, hi with | 0, _ => ⟨(hsa.app [_, _, _, _, _, _, _]), rfl⟩ | 1, _ => ⟨(hsb.app [_, _, _, _, _, _, _]), rfl⟩ | k + 2, hk => absurd hk (by omega)) (by simp [List.range_succ]) (by first | omega | (simp only [seg, List.length_append, List.length_drop, List.length_take, List.length_nil, List.length_cons, List.length_replicate]; omega))) PIn.nil fun w15 h15 => ?_
  refine Plan.neArrF FL2.arrI32 rfl rfl rfl (shaL_congr (by simp)) ?_
  refine Plan.move_bool rfl rfl ?_
  refine Plan.move_ptr rfl rfl ?_
  have h16 := St.pickT (C := [_, _, _, _, _, _, _]) h15 [4, 5, 6, 0, 1, 2, 3] (by decide)
  simp only [pick, List.filterMap_cons, List.filterMap_nil, List.getElem?_cons_zero, List.getElem?_cons_succ, List.cons_append, List.nil_append] at h16
  refine Plan.callS rfl FL2.call27 rfl (sum_l (X := ((([] : List Byte) ++ a) ++ c)) (iG := iG + 4) hG h16 hI11 (by first | omega | (simp only [seg, List.length_append, List.length_drop, List.length_take, List.length_nil, List.length_cons, List.length_replicate]; omega))) PIn.nil fun w17 h17 => ?_
  refine Plan.move_slice rfl rfl ?_
  refine Plan.move_slice rfl rfl ?_
  refine Plan.buildSlice h17 (ps := [(2, fun i => .slice ((fun i => ([aa, ac] : List (Option Addr)).getD i none) i) ((fun i => [a.length, c.length].getD i 0) i) ((fun i => [ca, cc].getD i 0) i))]) FL2.slu75 FL2.sz22 FL2.zv22 (by decide) (by decide) rfl rfl rfl (EffO.keep PIn.nil) fun b18 w18 hb18 h18 => ?_
  simp only [rngs, List.cons_append, List.nil_append] at h18
  refine Plan.callS rfl FL2.call21 rfl (sumall_z (Z := a ++ c) (iG := (iG + 8)) hG (i1 := (i1 + 8)) hH (iP := 0) (pa := fun i => ([aa, ac] : List (Option Addr)).getD i none) (pl := fun i => [a.length, c.length].getD i 0) (pc := fun i => [ca, cc].getD i 0) (X := fun i => ([a, c] : List (List Byte)).getD i []) h18 rfl (fun _ => ⟨_, rfl, rfl⟩) (Nat.le_refl _) (by decide) (fun i hi => match i, hi with | 0, _ => ⟨(hsa.app [_, _, _, _, _, _, _, _]), rfl⟩ | 1, _ => ⟨(hsc.app [_, _, _, _, _, _, _, _]), rfl⟩ | k + 2, hk => absurd hk (by omega)) (by simp [List.range_succ]) (by first | omega | (simp only [seg, List.length_append, List.length_drop, List.length_take, List.length_nil, List.length_cons, List.length_replicate]; omega))) PIn.nil fun w19 h19 => ?_
  refine Plan.neArrF FL2.arrI32 rfl rfl rfl (shaL_congr (by simp)) ?_
  refine Plan.pickFb rfl rfl rfl ?_
  refine Plan.move_bool rfl rfl ?_
  refine Plan.move_ptr rfl rfl ?_
  have h20 := St.pickT (C := [_, _, _, _, _, _, _, _]) h19 [5, 6, 7, 0, 1, 2, 3, 4] (by decide)
  simp only [pick, List.filterMap_cons, List.filterMap_nil, List.getElem?_cons_zero, List.getElem?_cons_succ, List.cons_append, List.nil_append] at h20
  refine Plan.call0 rfl FL2.call26 rfl (len_spec h20) ?_
  refine Plan.move_slice rfl rfl ?_
  refine Plan.len FL2.isl22 rfl rfl ?_
  refine Plan.move_slice rfl rfl ?_
  refine Plan.len FL2.isl22 rfl rfl ?_
  refine Plan.addN rfl rfl rfl (by omega) ?_
  refine Plan.neF rfl rfl rfl (by first | omega | (simp only [List.length_append, List.length_nil, List.length_cons] <;> omega)) ?_
  refine Plan.pickFb rfl rfl rfl ?_
  refine Plan.move_bool rfl rfl ?_
  refine Plan.move_ptr rfl rfl ?_
  have h21 := St.pickT (C := [_, _, _, _, _, _, _, _]) h20 [4, 5, 6, 0, 1, 2, 3, 7] (by decide)
  simp only [pick, List.filterMap_cons, List.filterMap_nil, List.getElem?_cons_zero, List.getElem?_cons_succ, List.cons_append, List.nil_append] at h21
  refine Plan.call0 rfl FL2.call26 rfl (len_spec h21) ?_
  refine Plan.move_slice rfl rfl ?_
  refine Plan.len FL2.isl22 rfl rfl ?_
  refine Plan.move_slice rfl rfl ?_
  refine Plan.len FL2.isl22 rfl rfl ?_
  refine Plan.addN rfl rfl rfl (by omega) ?_
  refine Plan.neF rfl rfl rfl (by first | omega | (simp only [List.length_append, List.length_nil, List.length_cons] <;> omega)) ?_
  refine Plan.pickFb rfl rfl rfl ?_
  refine Plan.nil ?_
  refine hK15 _ _ ?_; clear hK15
  refine W.condF rfl ?_
  refine W.skip ?_
  refine hK14 _ _ ?_; clear hK14
  refine W.seq_k fun K16 hK16 => ?_
  refine W.regionT [(0, true), (1, false)] (by kernel_rfl) ?_
  refine Plan.move_ptr rfl rfl ?_
  have h22 := St.pickT (C := [_, _, _, _, _, _, _, _]) h21 [3, 4, 5, 0, 1, 2, 6, 7] (by decide)
  simp only [pick, List.filterMap_cons, List.filterMap_nil, List.getElem?_cons_zero, List.getElem?_cons_succ, List.cons_append, List.nil_append] at h22
  refine Plan.callS rfl FL2.call31 rfl (wipe_spec (i1 := i1 + 5) hH h22) PIn.nil fun w23 h23 => ?_
  refine Plan.nil ?_
  refine hK16 _ _ ?_; clear hK16
  refine W.seq_k fun K17 hK17 => ?_
  refine W.regionT [(0, true), (1, true), (2, false)] (by kernel_rfl) ?_
  refine Plan.move_ptr rfl rfl ?_
  refine Plan.move_slice rfl rfl ?_
  have h24 := St.pickT (C := [_, _, _, _, _, _, _, _]) h23 [3, 4, 5, 0, 1, 2, 6, 7] (by decide)
  simp only [pick, List.filterMap_cons, List.filterMap_nil, List.getElem?_cons_zero, List.getElem?_cons_succ, List.cons_append, List.nil_append] at h24
  refine Plan.callE rfl FL2.call25 rfl (write_l (X := ((([] : List Byte) ++ a) ++ c)) (Y := b) (iG := iG + 5) hG h24 (hsb.app [_, _, _, _, _]) rfl (by first | omega | (simp only [seg, List.length_append, List.length_drop, List.length_take, List.length_nil, List.length_cons, List.length_replicate]; omega)) hI11) (fun sb => PIn.nil) fun sb25 w25 h25 hI25 => ?_
  refine Plan.nil ?_
  refine hK17 _ _ ?_; clear hK17
  refine W.seq_k fun K18 hK18 => ?_
  refine W.regionT [(0, true), (1, true), (2, false)] (by kernel_rfl) ?_
  refine Plan.move_ptr rfl rfl ?_
  refine Plan.move_slice rfl rfl ?_
  have h26 := St.pickT (C := [_, _, _, _, _, _, _, _]) h25 [3, 4, 5, 0, 1, 2, 6, 7] (by decide)
  simp only [pick, List.filterMap_cons, List.filterMap_nil, List.getElem?_cons_zero, List.getElem?_cons_succ, List.cons_append, List.nil_append] at h26
  refine Plan.callE rfl FL2.call25 rfl (write_l (X := ([] : List Byte)) (Y := c) (iG := iG + 5) hG h26 (hsc.app [_, _, _, _, _]) rfl (by first | omega | (simp only [seg, List.length_append, List.length_drop, List.length_take, List.length_nil, List.length_cons, List.length_replicate]; omega)) (HoldsL.new _ _ _)) (fun sb => PIn.nil) fun sb27 w27 h27 hI27 => ?_
  refine Plan.nil ?_
  refine hK18 _ _ ?_; clear hK18
  refine W.seq_k fun K19 hK19 => ?_
  refine W.regionT [(0, true), (1, false), (2, true), (3, false), (4, false), (5, true), (6, true), (7, true), (8, false), (9, true), (10, true), (11, true), (12, true), (13, true), (14, true), (15, false), (16, true), (17, true), (18, true), (19, false), (20, false), (21, true), (22, true), (23, true), (24, false), (25, false), (26, true), (27, true), (28, true)] (by kernel_rfl) ?_
  refine Plan.move_ptr rfl rfl ?_
  refine Plan.callS rfl FL2.call27 rfl (sum_l (X := (([] : List Byte) ++ c)) (iG := iG + 5) hG h27 hI27 (by first | omega | (simp only [seg, List.length_append, List.length_drop, List.length_take, List.length_nil, List.length_cons, List.length_replicate]; omega))) PIn.nil fun w28 h28 => ?_
  refine Plan.move_slice rfl rfl ?_
  refine Plan.buildSlice h28 (ps := [(1, fun i => .slice ((fun i => ([ac] : List (Option Addr)).getD i none) i) ((fun i => [c.length].getD i 0) i) ((fun i => [cc].getD i 0) i))]) FL2.slu75 FL2.sz22 FL2.zv22 (by decide) (by decide) rfl rfl rfl (EffO.keep PIn.nil) fun b29 w29 hb29 h29 => ?_
  simp only [rngs, List.cons_append, List.nil_append] at h29
  refine Plan.callS rfl FL2.call21 rfl (sumall_z (Z := c) (iG := (iG + 9)) hG (i1 := (i1 + 9)) hH (iP := 0) (pa := fun i => ([ac] : List (Option Addr)).getD i none) (pl := fun i => [c.length].getD i 0) (pc := fun i => [cc].getD i 0) (X := fun i => ([c] : List (List Byte)).getD i []) h29 rfl (fun _ => ⟨_, rfl, rfl⟩) (Nat.le_refl _) (by decide) (fun i hi => match i, hi with | 0, _ => ⟨(hsc.app [_, _, _, _, _, _, _, _, _]), rfl⟩ | k + 1, hk => absurd hk (by omega)) (by simp [List.range_succ]) (by first | omega | (simp only [seg, List.length_append, List.length_drop, List.length_take, List.length_nil, List.length_cons, List.length_replicate]; omega))) PIn.nil fun w30 h30 => ?_
  refine Plan.eqArrT FL2.arrI32 rfl rfl rfl (shaL_congr (by simp)) ?_
  refine Plan.move_bool rfl rfl ?_
  refine Plan.move_ptr rfl rfl ?_
  have h31 := St.pickT (C := [_, _, _, _, _, _, _, _, _]) h30 [1, 2, 3, 0, 4, 5, 6, 7, 8] (by decide)
  simp only [pick, List.filterMap_cons, List.filterMap_nil, List.getElem?_cons_zero, List.getElem?_cons_succ, List.cons_append, List.nil_append] at h31
  refine Plan.call0 rfl FL2.call26 rfl (len_spec h31) ?_
  refine Plan.move_slice rfl rfl ?_
  refine Plan.len FL2.isl22 rfl rfl ?_
  refine Plan.eqT rfl rfl rfl (by first | omega | (simp only [List.length_append, List.length_nil, List.length_cons] <;> omega)) ?_
  refine Plan.pickTb rfl rfl rfl ?_
  refine Plan.move_bool rfl rfl ?_
  refine Plan.move_ptr rfl rfl ?_
  have h32 := St.pickT (C := [_, _, _, _, _, _, _, _, _]) h31 [4, 5, 6, 0, 1, 2, 3, 7, 8] (by decide)
  simp only [pick, List.filterMap_cons, List.filterMap_nil, List.getElem?_cons_zero, List.getElem?_cons_succ, List.cons_append, List.nil_append] at h32
  refine Plan.callS rfl FL2.call27 rfl (sum_l (X := (((([] : List Byte) ++ a) ++ c) ++ b)) (iG := iG + 6) hG h32 hI25 (by first | omega | (simp only [seg, List.length_append, List.length_drop, List.length_take, List.length_nil, List.length_cons, List.length_replicate]; omega))) PIn.nil fun w33 h33 => ?_
  refine Plan.move_slice rfl rfl ?_
  refine Plan.move_slice rfl rfl ?_
  refine Plan.move_slice rfl rfl ?_
  refine Plan.buildSlice h33 (ps := [(3, fun i => .slice ((fun i => ([aa, ac, ab] : List (Option Addr)).getD i none) i) ((fun i => [a.length, c.length, b.length].getD i 0) i) ((fun i => [ca, cc, cb].getD i 0) i))]) FL2.slu75 FL2.sz22 FL2.zv22 (by decide) (by decide) rfl rfl rfl (EffO.keep PIn.nil) fun b34 w34 hb34 h34 => ?_
  simp only [rngs, List.cons_append, List.nil_append] at h34
  refine Plan.callS rfl FL2.call21 rfl (sumall_z (Z := a ++ c ++ b) (iG := (iG + 10)) hG (i1 := (i1 + 10)) hH (iP := 0) (pa := fun i => ([aa, ac, ab] : List (Option Addr)).getD i none) (pl := fun i => [a.length, c.length, b.length].getD i 0) (pc := fun i => [ca, cc, cb].getD i 0) (X := fun i => ([a, c, b] : List (List Byte)).getD i []) h34 rfl (fun _ => ⟨_, rfl, rfl⟩) (Nat.le_refl _) (by decide) (fun i hi => match i, hi with | 0, _ => ⟨(hsa.app [_, _, _, _, _, _, _, _, _, _]), rfl⟩ | 1, _ => ⟨(hsc.app [_, _, _, _, _, _, _, _, _, _]), rfl⟩ | 2, _ => ⟨(hsb.app [_, _, _, _, _, _, _, _, _, _]), rfl⟩ | k + 3, hk => absurd hk (by omega)) (by simp [List.range_succ]) (by first | omega | (simp only [seg, List.length_append, List.length_drop, List.length_take, List.length_nil, List.length_cons, List.length_replicate]; omega))) PIn.nil fun w35 h35 => ?_
  refine Plan.eqArrT FL2.arrI32 rfl rfl rfl (shaL_congr (by simp)) ?_
  refine Plan.pickTb rfl rfl rfl ?_
  refine Plan.move_bool rfl rfl ?_
  refine Plan.callE rfl FL2.call23 rfl (new_spec (i1 := (i1 + 10)) hH h35) (fun b => PIn.nil) fun b36 w36 h36 hb36 => ?_
  refine Plan.call0 rfl FL2.call26 rfl (len_spec h36) ?_
  refine Plan.eqT rfl rfl rfl (by first | omega | (simp only [List.length_append, List.length_nil, List.length_cons] <;> omega)) ?_
  refine Plan.pickTb rfl rfl rfl ?_
  refine Plan.assign_bool rfl rfl ?_
  refine Plan.nil ?_
  refine hK19 _ _ ?_; clear hK19
  refine W.ret (finR_ret ?_)
  refine RetOk.mk (.tmp_bool rfl .nil) ?_
  exact ⟨rfl, h36.tl.tl.tl.tl.tl.tl.tl.tl.tl.tl.tl.tl.tl⟩

end Go.Proofs.YtjdgbahjpdopbaaDoor
