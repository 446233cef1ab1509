/-
  WALKS, printed by this session's own generator (gen.py).
-/
import Derived.Test.YtjdgbahjpdopbaaDoorProg
import Derived.Test.YtjdgbahjpdopbaaDoorWKdf1
import Derived.Test.YtjdgbahjpdopbaaDoorShaG
namespace Go.Proofs.YtjdgbahjpdopbaaDoor
set_option linter.unusedSimpArgs false
set_option linter.unusedVariables false
set_option linter.unusedSectionVars false
open Go Go.LW
theorem FK2.z32 : zeroIs Tryd.prog 32 [(32, fun _ => VU .u8 0#8)] := zeroIs_agg (by kernel_rfl)
theorem FK2.zv22 : (Tryd.prog.info? 22).bind (·.zero) = some (.slice none 0 0) := by kernel_rfl
theorem FK2.slu75 : Tryd.prog.underlying 75 = some (.slice 22) := by kernel_rfl
theorem FK2.sz22 : szT Tryd.prog 22 1 = true := by kernel_rfl
theorem FK2.call36 : callB Tryd.prog 36 = true := by kernel_rfl
theorem FK2.sz32 : szT Tryd.prog 32 32 = true := by kernel_rfl
theorem FK2.agg32 : aggT Tryd.prog 32 32 = true := by kernel_rfl
theorem FK2.isl22 : ∃ el, Tryd.prog.underlying 22 = some (.slice el) := ⟨5, by kernel_rfl⟩
theorem FK2.sl22 : slB Tryd.prog 22 1 = true := by kernel_rfl
theorem FK2.call21 : callB Tryd.prog 21 = true := by kernel_rfl
theorem FK2.arr32 : arrB Tryd.prog 32 32 1 = true := by kernel_rfl
theorem FK2.el22 : elD Tryd.prog 22 = some (1, 1, some (VU .u8 0#8)) := by kernel_rfl
theorem FK2.sc5 : scalarT Tryd.prog 5 = true := by kernel_rfl
theorem FK2.sz5 : szT Tryd.prog 5 1 = true := by kernel_rfl
theorem FK2.zv5 : (Tryd.prog.info? 5).bind (·.zero) = some (VU .u8 0#8) := by kernel_rfl
theorem FK2.slu22 : Tryd.prog.underlying 22 = some (.slice 5) := by kernel_rfl
theorem FK2.u5 : Tryd.prog.underlying 5 = some (.int .u8) := by kernel_rfl

set_option maxRecDepth 8000 in
set_option maxHeartbeats 1000000 in
theorem extract_spec {B : Nat} {w0 w : World} {L : List Rg} {KK : Nat → BitVec 32} {iG : Nat} (hG : L[iG]? = some ⟨some 0, 0, 64, fun q => VU .u32 (KK q), false⟩) {i1 : Nat} (hH : L[i1]? = some ⟨some 1, 0, 8, fun q => VU .u32 (H256 q), false⟩) {aK : Option Addr} {nK cK : Nat} {XK : List Byte} (hXK : Bs L aK nK cK (lit XK)) (hlK : XK.length = nK) {aI : Option Addr} {nI cI : Nat} {XI : List Byte} (hXI : Bs L aI nI cI (lit XI)) (hlI : XI.length = nI) (hN : XI.length < 9223372036854770000 - 64) (hnK : XK.length < 9223372036854770000) (h : St B w0 L w) :
    Calls Tryd.prog 37 #[.slice aK nK cK, .slice aI nI cI] w fun e w' => e = .returned (AG [(32, fun q => VU .u8 (macL KK H256 XK XI q))]) ∧ St B w0 L w' := by
  refine W.enter 9 Tryd.func37 rfl rfl rfl ?_
  refine W.seq_k fun K1 hK1 => ?_
  refine W.regionT [(0, false)] (by kernel_rfl) ?_
  refine Plan.alloc h rfl FK2.z32 PIn.nil fun b1 w1 hb1 h1 => ?_
  simp only [rngs, Nat.zero_add, Nat.reduceAdd, List.cons_append, List.nil_append] at h1
  refine Plan.nil ?_
  refine hK1 _ _ ?_; clear hK1
  refine W.seq_k fun K2 hK2 => ?_
  refine W.regionT [(0, true), (1, true), (2, false), (3, false), (4, false)] (by kernel_rfl) ?_
  refine Plan.move_slice rfl rfl ?_
  refine Plan.move_slice rfl rfl ?_
  refine Plan.buildSlice h1 (ps := [(1, fun i => .slice ((fun i => ([aI] : List (Option Addr)).getD i none) i) ((fun i => [nI].getD i 0) i) ((fun i => [cI].getD i 0) i))]) FK2.slu75 FK2.sz22 FK2.zv22 (by decide) (by decide) rfl rfl rfl (EffO.keep PIn.nil) fun b2 w2 hb2 h2 => ?_
  simp only [rngs, List.cons_append, List.nil_append] at h2
  refine Plan.callS rfl FK2.call36 rfl (mac_spec (Z := XI) (iG := (iG + 2)) hG (i1 := (i1 + 2)) hH ((hXK.cons _).cons _) hlK (iP := 0) (pa := fun i => ([aI] : List (Option Addr)).getD i none) (pl := fun i => [nI].getD i 0) (pc := fun i => [cI].getD i 0) (XP := fun i => ([XI] : List (List Byte)).getD i []) rfl (fun _ => ⟨_, rfl, rfl⟩) (Nat.le_refl _) (by decide) (fun i hi => match i, hi with | 0, _ => ⟨((hXI.cons _).cons _), hlI⟩ | k + 1, hk => absurd hk (by omega)) (by simp [List.range_succ]) (by omega) (by omega) h2) PIn.nil fun w3 h3 => ?_
  refine Plan.storeA h3 1 rfl rfl rfl rfl (fun _ _ => rfl) FK2.sz32 rfl fun w4 h4 => ?_
  simp only [List.set_cons_zero, List.set_cons_succ] at h4
  refine Plan.nil ?_
  refine hK2 _ _ ?_; clear hK2
  refine W.ret (finR_ret ?_)
  refine RetOk.mk (.agg h4 rfl (.cons 1 rfl .nil) FK2.agg32 .nil) ?_
  exact ⟨rfl, h4.tl.tl⟩


set_option maxRecDepth 8000 in
set_option maxHeartbeats 1000000 in
theorem short3_spec {B : Nat} {w0 w : World} {L : List Rg} {aK : Option Addr} {nK cK : Nat} {XK : List Byte} (hXK : Bs L aK nK cK (lit XK)) (hlK : XK.length = nK) (h : St B w0 L w) :
    Calls Tryd.prog 33 #[.slice aK nK cK] w fun e w' => ∃ p : Option Addr × Nat, e = .returned (.slice p.1 (XK.take 400).length p.2) ∧ St B w0 L w' ∧ Bs L p.1 (XK.take 400).length p.2 (lit (XK.take 400)) := by
  refine W.enter 9 Tryd.func33 rfl rfl rfl ?_
  have hcc := hXK.le
  refine W.seq_k fun K1 hK1 => ?_
  refine W.regionT [(0, true)] (by kernel_rfl) ?_
  refine Plan.assign_slice rfl rfl ?_
  refine Plan.nil ?_
  refine hK1 _ _ ?_; clear hK1
  refine W.seq_k fun K2 hK2 => ?_
  refine W.seq_k fun K3 hK3 => ?_
  refine W.regionT [(0, true), (1, true), (2, true)] (by kernel_rfl) ?_
  refine Plan.move_slice rfl rfl ?_
  refine Plan.len FK2.isl22 rfl rfl ?_
  refine Plan.gtS rfl rfl rfl ?_ ?_
  ·
    intro hc1
    refine Plan.nil ?_
    refine hK3 _ _ ?_; clear hK3
    refine W.condT rfl ?_
    refine W.seq_k fun K4 hK4 => ?_
    refine W.regionT [(0, true), (1, true), (2, true)] (by kernel_rfl) ?_
    refine Plan.move_slice rfl rfl ?_
    refine Plan.slSl (hi := 400) FK2.sl22 rfl rfl rfl ⟨_, rfl⟩ (by omega) ?_
    refine Plan.assign_slice rfl rfl ?_
    refine Plan.nil ?_
    refine hK4 _ _ ?_; clear hK4
    refine W.ret (thenR_ret (finR_ret ?_))
    refine RetOk.mk (.tmp_slice rfl .nil) ?_
    have e1 : (XK.take 400).length = 400 := by rw [List.length_take]; omega
    have e2 := hXK.seg hlK (lo := 0) (hi := 400) (by omega)
    rw [seg_zero] at e2
    rw [e1]
    exact ⟨(_, _), rfl, h, e2⟩
  ·
    intro hc2
    refine Plan.nil ?_
    refine hK3 _ _ ?_; clear hK3
    refine W.condF rfl ?_
    refine W.skip ?_
    refine hK2 _ _ ?_; clear hK2
    refine W.seq_k fun K5 hK5 => ?_
    refine W.regionT [(0, true), (1, true)] (by kernel_rfl) ?_
    refine Plan.move_slice rfl rfl ?_
    refine Plan.assign_slice rfl rfl ?_
    refine Plan.nil ?_
    refine hK5 _ _ ?_; clear hK5
    refine W.ret (finR_ret ?_)
    refine RetOk.mk (.tmp_slice rfl .nil) ?_
    have e1 : XK.take 400 = XK := List.take_of_length_le (by omega)
    rw [e1, hlK]
    exact ⟨(aK, cK), rfl, h, hXK⟩


def restM (n : Int) (k : Nat) : Nat := ((n.tmod k + k).tmod k).toNat
theorem restM_lt (n : Int) {k : Nat} (hk : 0 < k) : restM n k < k := by
  unfold restM
  have h1 := Int.tmod_lt_of_pos n (show (0 : Int) < k by omega)
  have h2 := Int.lt_tmod_of_pos n (show (0 : Int) < k by omega)
  have h3 := Int.tmod_lt_of_pos (n.tmod k + k) (show (0 : Int) < k by omega)
  omega

set_option maxRecDepth 8000 in
set_option maxHeartbeats 1000000 in
theorem rest3_spec {n : Int} {k : Nat} (hn : -9223372036854775808 ≤ n ∧ n ≤ 9223372036854775807) (hk : 0 < k ∧ k < 1000000) (w : World) :
    Calls Tryd.prog 34 #[.int .i64 n, VN k] w fun e w' => e = .returned (VN (restM n k)) ∧ w' = w := by
  refine W.enter 12 Tryd.func34 rfl rfl rfl ?_
  have h1 := Int.tmod_lt_of_pos n (show (0 : Int) < k by omega)
  have h2 := Int.lt_tmod_of_pos n (show (0 : Int) < k by omega)
  have h3 := Int.tmod_nonneg (k : Int) (show (0 : Int) ≤ n.tmod k + k by omega)
  refine W.seq_k fun K1 hK1 => ?_
  refine W.regionT [(0, true)] (by kernel_rfl) ?_
  refine Plan.assign_int rfl rfl ?_
  refine Plan.nil ?_
  refine hK1 _ _ ?_; clear hK1
  refine W.seq_k fun K2 hK2 => ?_
  refine W.regionT [(0, true), (1, true), (2, true), (3, true), (4, true), (5, true), (6, true), (7, true)] (by kernel_rfl) ?_
  refine Plan.move_int rfl rfl ?_
  refine Plan.move_int rfl rfl ?_
  refine Plan.remI rfl rfl rfl (by omega) ?_
  refine Plan.move_int rfl rfl ?_
  refine Plan.addI rfl rfl rfl (by omega) ?_
  refine Plan.move_int rfl rfl ?_
  refine Plan.remI rfl rfl rfl (by omega) ?_
  refine Plan.assign_int rfl rfl ?_
  refine Plan.nil ?_
  refine hK2 _ _ ?_; clear hK2
  refine W.ret (finR_ret ?_)
  refine RetOk.mk (.tmp_int rfl .nil) ?_
  refine ⟨?_, rfl⟩
  exact congrArg (fun z => Ending.returned (Value.int .i64 z)) (Int.toNat_of_nonneg h3).symm


set_option maxRecDepth 8000 in
set_option maxHeartbeats 1000000 in
theorem turned_spec {B : Nat} {w0 w : World} {L : List Rg} {KK : Nat → BitVec 32} {iG : Nat} (hG : L[iG]? = some ⟨some 0, 0, 64, fun q => VU .u32 (KK q), false⟩) {i1 : Nat} (hH : L[i1]? = some ⟨some 1, 0, 8, fun q => VU .u32 (H256 q), false⟩) {aK : Option Addr} {nK cK : Nat} {XK : List Byte} (hXK : Bs L aK nK cK (lit XK)) (hlK : XK.length = nK) {x : Byte} (hn : XK.length < 9223372036854770000) (h : St B w0 L w) :
    Calls Tryd.prog 35 #[.slice aK nK cK, VU .u8 x] w fun e w' => ∃ b, e = .returned (.slice (some ⟨b, 0, none⟩) 64 64) ∧ St B w0 (⟨some b, 0, 64, fun q => VU .u8 (lit (padL KK H256 XK x) q), true⟩ :: L) w' ∧ B ≤ b := by
  refine W.enter 36 Tryd.func35 rfl rfl rfl ?_
  refine W.seq_k fun K1 hK1 => ?_
  refine W.regionT [(0, true)] (by kernel_rfl) ?_
  refine Plan.assign_slice rfl rfl ?_
  refine Plan.nil ?_
  refine hK1 _ _ ?_; clear hK1
  refine W.seq_k fun K2 hK2 => ?_
  refine W.seq_k fun K3 hK3 => ?_
  refine W.regionT [(0, true), (1, true), (2, true)] (by kernel_rfl) ?_
  refine Plan.move_slice rfl rfl ?_
  refine Plan.len FK2.isl22 rfl rfl ?_
  refine Plan.gtS rfl rfl rfl ?_ ?_
  ·
    intro hc1
    refine Plan.nil ?_
    refine hK3 _ _ ?_; clear hK3
    refine W.condT rfl ?_
    refine W.seq_k fun K4 hK4 => ?_
    refine W.regionT [(0, true), (1, false), (2, false), (3, false), (4, false)] (by kernel_rfl) ?_
    refine Plan.move_slice rfl rfl ?_
    refine Plan.buildSlice h (ps := [(1, fun i => .slice ((fun i => ([aK] : List (Option Addr)).getD i none) i) ((fun i => [nK].getD i 0) i) ((fun i => [cK].getD i 0) i))]) FK2.slu75 FK2.sz22 FK2.zv22 (by decide) (by decide) rfl rfl rfl (EffO.keep PIn.nil) fun b2 w2 hb2 h2 => ?_
    simp only [rngs, List.cons_append, List.nil_append] at h2
    refine Plan.callS rfl FK2.call21 rfl (sumall_z (Z := XK) (iG := (iG + 1)) hG (i1 := (i1 + 1)) hH (iP := 0) (pa := fun i => ([aK] : List (Option Addr)).getD i none) (pl := fun i => [nK].getD i 0) (pc := fun i => [cK].getD i 0) (X := fun i => ([XK] : List (List Byte)).getD i []) h2 rfl (fun _ => ⟨_, rfl, rfl⟩) (Nat.le_refl _) (by decide) (fun i hi => match i, hi with | 0, _ => ⟨(hXK.cons _), hlK⟩ | k + 1, hk => absurd hk (by omega)) (by simp [List.range_succ]) (by first | omega | (simp only [seg, List.length_append, List.length_drop, List.length_take, List.length_nil, List.length_cons, List.length_replicate]; omega))) PIn.nil fun w3 h3 => ?_
    refine Plan.alloc h3 rfl FK2.z32 PIn.nil fun b4 w4 hb4 h4 => ?_
    simp only [rngs, Nat.zero_add, Nat.reduceAdd, List.cons_append, List.nil_append] at h4
    refine Plan.storeA h4 0 rfl rfl rfl rfl (fun _ _ => rfl) FK2.sz32 rfl fun w5 h5 => ?_
    simp only [List.set_cons_zero, List.set_cons_succ] at h5
    refine Plan.nil ?_
    refine hK4 _ _ ?_; clear hK4
    refine W.regionT [(0, true), (1, false), (2, true)] (by kernel_rfl) ?_
    refine Plan.slArr FK2.arr32 rfl rfl rfl rfl (by omega) ?_
    have h6 := h5.ownNil
    refine Plan.appendL (X := ([] : List Byte)) (Y := (dl 32 (shaL KK H256 (XK)))) h6 0 FK2.el22 FK2.sl22 rfl rfl rfl rfl OwnSl.nil (by omega) rfl (fun q hq => absurd hq (Nat.not_lt_zero q)) (Bs.dl 1 rfl) (dl_length _ _) (by omega) (fun _ => EffO.keep PIn.nil) fun a7 pb7 cap7 F7 w7 ho7 hc7 hF7 h7 => ?_
    simp only [List.set_cons_zero, List.set_cons_succ] at h7
    refine Plan.assign_slice rfl rfl ?_
    refine Plan.nil ?_
    refine hK2 _ _ ?_; clear hK2
    refine W.seq_k fun K5 hK5 => ?_
    refine W.regionT [(0, false), (1, true)] (by kernel_rfl) ?_
    refine Plan.makeU h7 (c := 64) FK2.el22 rfl rfl rfl rfl (by decide) (by decide) (fun _ => EffO.keep PIn.nil) fun b8 w8 hb8 h8 => ?_
    refine Plan.assign_slice rfl rfl ?_
    refine Plan.nil ?_
    refine hK5 _ _ ?_; clear hK5
    refine W.seq_k fun K6 hK6 => ?_
    refine W.regionT [(0, true), (1, true), (2, false)] (by kernel_rfl) ?_
    refine Plan.move_slice rfl rfl ?_
    refine Plan.move_slice rfl rfl ?_
    refine Plan.copyB (jd := 0) h8 0 32 FK2.sl22 rfl rfl rfl rfl (Bs.ownL 1 rfl (len := (([] : List Byte) ++ (dl 32 (shaL KK H256 (XK)))).length) (cap := cap7) ho7 (by omega) hF7) (fun _ => ⟨_, rfl, rfl⟩) rfl (by first | omega | (rw [List.nil_append, dl_length]; decide)) (by omega) (EffO.keep PIn.nil) fun w9 h9 => ?_
    simp only [List.set_cons_zero, List.set_cons_succ] at h9
    refine Plan.nil ?_
    refine hK6 _ _ ?_; clear hK6
    refine W.seq_k fun K7 hK7 => ?_
    refine W.seq_k fun K8 hK8 => ?_
    refine W.regionT [(0, true)] (by kernel_rfl) ?_
    refine Plan.assign_int rfl rfl ?_
    refine Plan.nil ?_
    refine hK8 _ _ ?_; clear hK8
    refine W.block ?_
    have h10 := St.pickT (C := [_, _, _, _]) h9 [0] (by decide)
    simp only [pick, List.filterMap_cons, List.filterMap_nil, List.getElem?_cons_zero, List.getElem?_cons_succ, List.cons_append, List.nil_append] at h10
    refine W.loop (fun mR e w => ∃ t : Nat, mR = 64 - t ∧ (t ≤ 64) ∧ EnvHas e [(1, VU .u8 x), (6, .slice (some ⟨b8, 0, none⟩) 64 64), (7, VN t)] ∧ St B w0 (⟨some b8, 0, 64, fun q => VU .u8 (xorTo (spl (fun _ => 0#8) 0 32 (lit (([] : List Byte) ++ (dl 32 (shaL KK H256 (XK)))))) x t q), true⟩ :: L) w) (_) ⟨0, rfl, by omega, (EnvHas.cons rfl (EnvHas.cons rfl (EnvHas.cons rfl EnvHas.nil))), h10⟩ ?_
    rintro _ ev11 wl11 ⟨t, rfl, ht, he11, h11⟩
    obtain ⟨ev11, rfl⟩ := he11.open
    refine W.seq_k fun K9 hK9 => ?_
    refine W.seq_k fun K10 hK10 => ?_
    refine W.regionT [(0, true), (1, true), (2, true), (3, true)] (by kernel_rfl) ?_
    refine Plan.move_int rfl rfl ?_
    refine Plan.move_slice rfl rfl ?_
    refine Plan.len FK2.isl22 rfl rfl ?_
    refine Plan.ltS rfl rfl rfl ?_ ?_
    ·
      intro hc12
      refine Plan.nil ?_
      refine hK10 _ _ ?_; clear hK10
      refine W.condT rfl ?_
      refine W.skip ?_
      refine hK9 _ _ ?_; clear hK9
      refine W.seq_k fun K11 hK11 => ?_
      refine W.block ?_
      refine W.regionT [(0, true), (1, true), (2, true), (3, true), (4, true), (5, true), (6, true), (7, true), (8, true), (9, false)] (by kernel_rfl) ?_
      refine Plan.move_slice rfl rfl ?_
      refine Plan.move_int rfl rfl ?_
      refine Plan.move_slice rfl rfl ?_
      refine Plan.move_int rfl rfl ?_
      refine Plan.idxSl1 FK2.sl22 rfl rfl rfl (by omega) ?_
      refine Plan.load1 h11 0 rfl rfl rfl (by omega) FK2.sc5 ?_
      refine Plan.move_int rfl rfl ?_
      refine Plan.xorU .u8 rfl rfl rfl ?_
      refine Plan.idxSl1 FK2.sl22 rfl rfl rfl (by omega) ?_
      refine Plan.storeU h11 0 rfl rfl rfl rfl (by omega) FK2.sz5 rfl fun w13 h13 => ?_
      simp only [List.set_cons_zero, List.set_cons_succ] at h13
      refine Plan.nil ?_
      refine blockR_norm ?_
      refine hK11 _ _ ?_; clear hK11
      refine W.regionT [(0, true), (1, true), (2, true)] (by kernel_rfl) ?_
      refine Plan.move_int rfl rfl ?_
      refine Plan.addN (b := 1) rfl rfl rfl (by omega) ?_
      refine Plan.assign_int rfl rfl ?_
      refine Plan.nil ?_
      refine thenR_norm ?_
      refine ⟨_, ?_, t + 1, rfl, by omega, (EnvHas.cons rfl (EnvHas.cons rfl (EnvHas.cons rfl EnvHas.nil))), h13⟩
      omega
    ·
      intro hc14
      refine Plan.nil ?_
      refine hK10 _ _ ?_; clear hK10
      refine W.condF rfl ?_
      refine W.exit (thenR_exit (thenR_exit (blockR_here ?_)))
      refine hK7 _ _ ?_; clear hK7
      refine W.seq_k fun K12 hK12 => ?_
      refine W.regionT [(0, true), (1, true)] (by kernel_rfl) ?_
      refine Plan.move_slice rfl rfl ?_
      refine Plan.assign_slice rfl rfl ?_
      refine Plan.nil ?_
      refine hK12 _ _ ?_; clear hK12
      refine W.ret (finR_ret ?_)
      refine RetOk.mk (.tmp_slice rfl .nil) ?_
      obtain rfl : t = 64 := by omega
      exact ⟨_, rfl, h11.head (fun q hq => congrArg (VU .u8) (padTo (by rw [List.nil_append]; exact keyL_big (by omega)) (by rw [List.nil_append, dl_length]) (by decide) q hq)), hb8⟩
  ·
    intro hc15
    refine Plan.nil ?_
    refine hK3 _ _ ?_; clear hK3
    refine W.condF rfl ?_
    refine W.skip ?_
    refine hK2 _ _ ?_; clear hK2
    refine W.seq_k fun K13 hK13 => ?_
    refine W.regionT [(0, false), (1, true)] (by kernel_rfl) ?_
    refine Plan.makeU h (c := 64) FK2.el22 rfl rfl rfl rfl (by decide) (by decide) (fun _ => EffO.keep PIn.nil) fun b16 w16 hb16 h16 => ?_
    refine Plan.assign_slice rfl rfl ?_
    refine Plan.nil ?_
    refine hK13 _ _ ?_; clear hK13
    refine W.seq_k fun K14 hK14 => ?_
    refine W.regionT [(0, true), (1, true), (2, false)] (by kernel_rfl) ?_
    refine Plan.move_slice rfl rfl ?_
    refine Plan.move_slice rfl rfl ?_
    refine Plan.copyB (jd := 0) h16 0 nK FK2.sl22 rfl rfl rfl rfl (hXK.cons _) (fun _ => ⟨_, rfl, rfl⟩) rfl (by first | omega | (rw [List.nil_append, dl_length]; decide)) (by omega) (EffO.keep PIn.nil) fun w17 h17 => ?_
    simp only [List.set_cons_zero, List.set_cons_succ] at h17
    refine Plan.nil ?_
    refine hK14 _ _ ?_; clear hK14
    refine W.seq_k fun K15 hK15 => ?_
    refine W.seq_k fun K16 hK16 => ?_
    refine W.regionT [(0, true)] (by kernel_rfl) ?_
    refine Plan.assign_int rfl rfl ?_
    refine Plan.nil ?_
    refine hK16 _ _ ?_; clear hK16
    refine W.block ?_
    refine W.loop (fun mR e w => ∃ t : Nat, mR = 64 - t ∧ (t ≤ 64) ∧ EnvHas e [(1, VU .u8 x), (6, .slice (some ⟨b16, 0, none⟩) 64 64), (7, VN t)] ∧ St B w0 (⟨some b16, 0, 64, fun q => VU .u8 (xorTo (spl (fun _ => 0#8) 0 nK (lit XK)) x t q), true⟩ :: L) w) (_) ⟨0, rfl, by omega, (EnvHas.cons rfl (EnvHas.cons rfl (EnvHas.cons rfl EnvHas.nil))), h17⟩ ?_
    rintro _ ev18 wl18 ⟨t, rfl, ht, he18, h18⟩
    obtain ⟨ev18, rfl⟩ := he18.open
    refine W.seq_k fun K17 hK17 => ?_
    refine W.seq_k fun K18 hK18 => ?_
    refine W.regionT [(0, true), (1, true), (2, true), (3, true)] (by kernel_rfl) ?_
    refine Plan.move_int rfl rfl ?_
    refine Plan.move_slice rfl rfl ?_
    refine Plan.len FK2.isl22 rfl rfl ?_
    refine Plan.ltS rfl rfl rfl ?_ ?_
    ·
      intro hc19
      refine Plan.nil ?_
      refine hK18 _ _ ?_; clear hK18
      refine W.condT rfl ?_
      refine W.skip ?_
      refine hK17 _ _ ?_; clear hK17
      refine W.seq_k fun K19 hK19 => ?_
      refine W.block ?_
      refine W.regionT [(0, true), (1, true), (2, true), (3, true), (4, true), (5, true), (6, true), (7, true), (8, true), (9, false)] (by kernel_rfl) ?_
      refine Plan.move_slice rfl rfl ?_
      refine Plan.move_int rfl rfl ?_
      refine Plan.move_slice rfl rfl ?_
      refine Plan.move_int rfl rfl ?_
      refine Plan.idxSl1 FK2.sl22 rfl rfl rfl (by omega) ?_
      refine Plan.load1 h18 0 rfl rfl rfl (by omega) FK2.sc5 ?_
      refine Plan.move_int rfl rfl ?_
      refine Plan.xorU .u8 rfl rfl rfl ?_
      refine Plan.idxSl1 FK2.sl22 rfl rfl rfl (by omega) ?_
      refine Plan.storeU h18 0 rfl rfl rfl rfl (by omega) FK2.sz5 rfl fun w20 h20 => ?_
      simp only [List.set_cons_zero, List.set_cons_succ] at h20
      refine Plan.nil ?_
      refine blockR_norm ?_
      refine hK19 _ _ ?_; clear hK19
      refine W.regionT [(0, true), (1, true), (2, true)] (by kernel_rfl) ?_
      refine Plan.move_int rfl rfl ?_
      refine Plan.addN (b := 1) rfl rfl rfl (by omega) ?_
      refine Plan.assign_int rfl rfl ?_
      refine Plan.nil ?_
      refine thenR_norm ?_
      refine ⟨_, ?_, t + 1, rfl, by omega, (EnvHas.cons rfl (EnvHas.cons rfl (EnvHas.cons rfl EnvHas.nil))), h20⟩
      omega
    ·
      intro hc21
      refine Plan.nil ?_
      refine hK18 _ _ ?_; clear hK18
      refine W.condF rfl ?_
      refine W.exit (thenR_exit (thenR_exit (blockR_here ?_)))
      refine hK15 _ _ ?_; clear hK15
      refine W.seq_k fun K20 hK20 => ?_
      refine W.regionT [(0, true), (1, true)] (by kernel_rfl) ?_
      refine Plan.move_slice rfl rfl ?_
      refine Plan.assign_slice rfl rfl ?_
      refine Plan.nil ?_
      refine hK20 _ _ ?_; clear hK20
      refine W.ret (finR_ret ?_)
      refine RetOk.mk (.tmp_slice rfl .nil) ?_
      obtain rfl : t = 64 := by omega
      exact ⟨_, rfl, h18.head (fun q hq => congrArg (VU .u8) (padTo (keyL_small (by omega)) (by omega) (by omega) q hq)), hb16⟩


theorem shaL_eval {X : List Byte} {n : Nat} {l : List Nat} {D : List Byte} (hn : X.length = n) (h : (hstF (padf (lit X) n) ((xlen n + 8) / 64)).list = l) (hD : (List.range 32).all (fun q => D.getD q 0 == BitVec.ofNat 8 (l.getD (q / 4) 0 >>> (24 - 8 * (q % 4)))) = true) (hl : D.length = 32) : dl 32 (shaL K256 H256 X) = D := by
  subst hn
  have h1 := dig_of ((congrArg N8.list (hstF_eq (padf (lit X) X.length) ((xlen X.length + 8) / 64))).trans h) hD
  rw [← lit_of D, hl]
  unfold dl
  exact List.map_congr_left fun q hq => h1 q (List.mem_range.1 hq)
def jefe : List Byte := [74#8, 101#8, 102#8, 101#8]
def jmsg : List Byte := [119#8, 104#8, 97#8, 116#8, 32#8, 100#8, 111#8, 32#8, 121#8, 97#8, 32#8, 119#8, 97#8, 110#8, 116#8, 32#8, 102#8, 111#8, 114#8, 32#8, 110#8, 111#8, 116#8, 104#8, 105#8, 110#8, 103#8, 63#8]
theorem jpad1 : padL K256 H256 jefe 54#8 ++ jmsg = [124#8, 83#8, 80#8, 83#8, 54#8, 54#8, 54#8, 54#8, 54#8, 54#8, 54#8, 54#8, 54#8, 54#8, 54#8, 54#8, 54#8, 54#8, 54#8, 54#8, 54#8, 54#8, 54#8, 54#8, 54#8, 54#8, 54#8, 54#8, 54#8, 54#8, 54#8, 54#8, 54#8, 54#8, 54#8, 54#8, 54#8, 54#8, 54#8, 54#8, 54#8, 54#8, 54#8, 54#8, 54#8, 54#8, 54#8, 54#8, 54#8, 54#8, 54#8, 54#8, 54#8, 54#8, 54#8, 54#8, 54#8, 54#8, 54#8, 54#8, 54#8, 54#8, 54#8, 54#8, 119#8, 104#8, 97#8, 116#8, 32#8, 100#8, 111#8, 32#8, 121#8, 97#8, 32#8, 119#8, 97#8, 110#8, 116#8, 32#8, 102#8, 111#8, 114#8, 32#8, 110#8, 111#8, 116#8, 104#8, 105#8, 110#8, 103#8, 63#8] := by decide +kernel
theorem jpad2 : padL K256 H256 jefe 92#8 = [22#8, 57#8, 58#8, 57#8, 92#8, 92#8, 92#8, 92#8, 92#8, 92#8, 92#8, 92#8, 92#8, 92#8, 92#8, 92#8, 92#8, 92#8, 92#8, 92#8, 92#8, 92#8, 92#8, 92#8, 92#8, 92#8, 92#8, 92#8, 92#8, 92#8, 92#8, 92#8, 92#8, 92#8, 92#8, 92#8, 92#8, 92#8, 92#8, 92#8, 92#8, 92#8, 92#8, 92#8, 92#8, 92#8, 92#8, 92#8, 92#8, 92#8, 92#8, 92#8, 92#8, 92#8, 92#8, 92#8, 92#8, 92#8, 92#8, 92#8, 92#8, 92#8, 92#8, 92#8] := by decide +kernel
theorem jin_w : (hstF (padf (lit ([124#8, 83#8, 80#8, 83#8, 54#8, 54#8, 54#8, 54#8, 54#8, 54#8, 54#8, 54#8, 54#8, 54#8, 54#8, 54#8, 54#8, 54#8, 54#8, 54#8, 54#8, 54#8, 54#8, 54#8, 54#8, 54#8, 54#8, 54#8, 54#8, 54#8, 54#8, 54#8, 54#8, 54#8, 54#8, 54#8, 54#8, 54#8, 54#8, 54#8, 54#8, 54#8, 54#8, 54#8, 54#8, 54#8, 54#8, 54#8, 54#8, 54#8, 54#8, 54#8, 54#8, 54#8, 54#8, 54#8, 54#8, 54#8, 54#8, 54#8, 54#8, 54#8, 54#8, 54#8, 119#8, 104#8, 97#8, 116#8, 32#8, 100#8, 111#8, 32#8, 121#8, 97#8, 32#8, 119#8, 97#8, 110#8, 116#8, 32#8, 102#8, 111#8, 114#8, 32#8, 110#8, 111#8, 116#8, 104#8, 105#8, 110#8, 103#8, 63#8] : List Byte)) 92) ((xlen 92 + 8) / 64)).list = [2732885382, 1026030040, 1689030016, 607298029, 1199410252, 1865719062, 3571968279, 3324627671] := by decide +kernel
theorem jin : dl 32 (shaL K256 H256 ([124#8, 83#8, 80#8, 83#8, 54#8, 54#8, 54#8, 54#8, 54#8, 54#8, 54#8, 54#8, 54#8, 54#8, 54#8, 54#8, 54#8, 54#8, 54#8, 54#8, 54#8, 54#8, 54#8, 54#8, 54#8, 54#8, 54#8, 54#8, 54#8, 54#8, 54#8, 54#8, 54#8, 54#8, 54#8, 54#8, 54#8, 54#8, 54#8, 54#8, 54#8, 54#8, 54#8, 54#8, 54#8, 54#8, 54#8, 54#8, 54#8, 54#8, 54#8, 54#8, 54#8, 54#8, 54#8, 54#8, 54#8, 54#8, 54#8, 54#8, 54#8, 54#8, 54#8, 54#8, 119#8, 104#8, 97#8, 116#8, 32#8, 100#8, 111#8, 32#8, 121#8, 97#8, 32#8, 119#8, 97#8, 110#8, 116#8, 32#8, 102#8, 111#8, 114#8, 32#8, 110#8, 111#8, 116#8, 104#8, 105#8, 110#8, 103#8, 63#8] : List Byte)) = [162#8, 228#8, 133#8, 134#8, 61#8, 39#8, 249#8, 216#8, 100#8, 172#8, 141#8, 128#8, 36#8, 50#8, 161#8, 237#8, 71#8, 125#8, 140#8, 76#8, 111#8, 52#8, 157#8, 22#8, 212#8, 231#8, 233#8, 23#8, 198#8, 41#8, 202#8, 215#8] := shaL_eval (X := [124#8, 83#8, 80#8, 83#8, 54#8, 54#8, 54#8, 54#8, 54#8, 54#8, 54#8, 54#8, 54#8, 54#8, 54#8, 54#8, 54#8, 54#8, 54#8, 54#8, 54#8, 54#8, 54#8, 54#8, 54#8, 54#8, 54#8, 54#8, 54#8, 54#8, 54#8, 54#8, 54#8, 54#8, 54#8, 54#8, 54#8, 54#8, 54#8, 54#8, 54#8, 54#8, 54#8, 54#8, 54#8, 54#8, 54#8, 54#8, 54#8, 54#8, 54#8, 54#8, 54#8, 54#8, 54#8, 54#8, 54#8, 54#8, 54#8, 54#8, 54#8, 54#8, 54#8, 54#8, 119#8, 104#8, 97#8, 116#8, 32#8, 100#8, 111#8, 32#8, 121#8, 97#8, 32#8, 119#8, 97#8, 110#8, 116#8, 32#8, 102#8, 111#8, 114#8, 32#8, 110#8, 111#8, 116#8, 104#8, 105#8, 110#8, 103#8, 63#8]) rfl jin_w (by decide +kernel) rfl
theorem jout_w : (hstF (padf (lit ([22#8, 57#8, 58#8, 57#8, 92#8, 92#8, 92#8, 92#8, 92#8, 92#8, 92#8, 92#8, 92#8, 92#8, 92#8, 92#8, 92#8, 92#8, 92#8, 92#8, 92#8, 92#8, 92#8, 92#8, 92#8, 92#8, 92#8, 92#8, 92#8, 92#8, 92#8, 92#8, 92#8, 92#8, 92#8, 92#8, 92#8, 92#8, 92#8, 92#8, 92#8, 92#8, 92#8, 92#8, 92#8, 92#8, 92#8, 92#8, 92#8, 92#8, 92#8, 92#8, 92#8, 92#8, 92#8, 92#8, 92#8, 92#8, 92#8, 92#8, 92#8, 92#8, 92#8, 92#8] ++ [162#8, 228#8, 133#8, 134#8, 61#8, 39#8, 249#8, 216#8, 100#8, 172#8, 141#8, 128#8, 36#8, 50#8, 161#8, 237#8, 71#8, 125#8, 140#8, 76#8, 111#8, 52#8, 157#8, 22#8, 212#8, 231#8, 233#8, 23#8, 198#8, 41#8, 202#8, 215#8] : List Byte)) 96) ((xlen 96 + 8) / 64)).list = [1541194054, 3210769742, 1778656294, 144012743, 1509965576, 2636593539, 2649512121, 1693202499] := by decide +kernel
theorem jout : dl 32 (shaL K256 H256 ([22#8, 57#8, 58#8, 57#8, 92#8, 92#8, 92#8, 92#8, 92#8, 92#8, 92#8, 92#8, 92#8, 92#8, 92#8, 92#8, 92#8, 92#8, 92#8, 92#8, 92#8, 92#8, 92#8, 92#8, 92#8, 92#8, 92#8, 92#8, 92#8, 92#8, 92#8, 92#8, 92#8, 92#8, 92#8, 92#8, 92#8, 92#8, 92#8, 92#8, 92#8, 92#8, 92#8, 92#8, 92#8, 92#8, 92#8, 92#8, 92#8, 92#8, 92#8, 92#8, 92#8, 92#8, 92#8, 92#8, 92#8, 92#8, 92#8, 92#8, 92#8, 92#8, 92#8, 92#8] ++ [162#8, 228#8, 133#8, 134#8, 61#8, 39#8, 249#8, 216#8, 100#8, 172#8, 141#8, 128#8, 36#8, 50#8, 161#8, 237#8, 71#8, 125#8, 140#8, 76#8, 111#8, 52#8, 157#8, 22#8, 212#8, 231#8, 233#8, 23#8, 198#8, 41#8, 202#8, 215#8] : List Byte)) = [91#8, 220#8, 193#8, 70#8, 191#8, 96#8, 117#8, 78#8, 106#8, 4#8, 36#8, 38#8, 8#8, 149#8, 117#8, 199#8, 90#8, 0#8, 63#8, 8#8, 157#8, 39#8, 57#8, 131#8, 157#8, 236#8, 88#8, 185#8, 100#8, 236#8, 56#8, 67#8] := shaL_eval (X := [22#8, 57#8, 58#8, 57#8, 92#8, 92#8, 92#8, 92#8, 92#8, 92#8, 92#8, 92#8, 92#8, 92#8, 92#8, 92#8, 92#8, 92#8, 92#8, 92#8, 92#8, 92#8, 92#8, 92#8, 92#8, 92#8, 92#8, 92#8, 92#8, 92#8, 92#8, 92#8, 92#8, 92#8, 92#8, 92#8, 92#8, 92#8, 92#8, 92#8, 92#8, 92#8, 92#8, 92#8, 92#8, 92#8, 92#8, 92#8, 92#8, 92#8, 92#8, 92#8, 92#8, 92#8, 92#8, 92#8, 92#8, 92#8, 92#8, 92#8, 92#8, 92#8, 92#8, 92#8] ++ [162#8, 228#8, 133#8, 134#8, 61#8, 39#8, 249#8, 216#8, 100#8, 172#8, 141#8, 128#8, 36#8, 50#8, 161#8, 237#8, 71#8, 125#8, 140#8, 76#8, 111#8, 52#8, 157#8, 22#8, 212#8, 231#8, 233#8, 23#8, 198#8, 41#8, 202#8, 215#8]) rfl jout_w (by decide +kernel) rfl
theorem jmac : dl 32 (macL K256 H256 jefe jmsg) = [91#8, 220#8, 193#8, 70#8, 191#8, 96#8, 117#8, 78#8, 106#8, 4#8, 36#8, 38#8, 8#8, 149#8, 117#8, 199#8, 90#8, 0#8, 63#8, 8#8, 157#8, 39#8, 57#8, 131#8, 157#8, 236#8, 88#8, 185#8, 100#8, 236#8, 56#8, 67#8] := by
  unfold macL
  rw [jpad1, jin, jpad2]
  exact jout
theorem jmac_at {q : Nat} (h : q < 32) : macL K256 H256 jefe jmsg q = lit [91#8, 220#8, 193#8, 70#8, 191#8, 96#8, 117#8, 78#8, 106#8, 4#8, 36#8, 38#8, 8#8, 149#8, 117#8, 199#8, 90#8, 0#8, 63#8, 8#8, 157#8, 39#8, 57#8, 131#8, 157#8, 236#8, 88#8, 185#8, 100#8, 236#8, 56#8, 67#8] q := by rw [← lit_dl (macL K256 H256 jefe jmsg) h, jmac]

theorem jm0 : ((macL K256 H256 jefe jmsg 0).toNat : Int) = 91 := by rw [jmac_at (by decide)]; decide

theorem jm1 : ((macL K256 H256 jefe jmsg 1).toNat : Int) = 220 := by rw [jmac_at (by decide)]; decide

theorem jm31 : ((macL K256 H256 jefe jmsg 31).toNat : Int) = 67 := by rw [jmac_at (by decide)]; decide

set_option maxRecDepth 8000 in
set_option maxHeartbeats 1000000 in
theorem awake_spec {B : Nat} {w0 w : World} {L : List Rg} {iG : Nat} (hG : L[iG]? = some ⟨some 0, 0, 64, fun q => VU .u32 (K256 q), false⟩) {i1 : Nat} (hH : L[i1]? = some ⟨some 1, 0, 8, fun q => VU .u32 (H256 q), false⟩) (h : St B w0 L w) :
    Calls Tryd.prog 32 #[] w fun e w' => e = .returned (.bool true) ∧ St B w0 L w' := by
  refine W.enter 21 Tryd.func32 rfl rfl rfl ?_
  have hj1 : jefe.length = 4 := rfl
  have hj2 : jmsg.length = 28 := rfl
  refine W.seq_k fun K1 hK1 => ?_
  refine W.regionT [(0, true)] (by kernel_rfl) ?_
  refine Plan.assign_bool rfl rfl ?_
  refine Plan.nil ?_
  refine hK1 _ _ ?_; clear hK1
  refine W.seq_k fun K2 hK2 => ?_
  refine W.regionT [(0, false), (1, false), (2, false), (3, false), (4, false), (5, false), (6, false), (7, false)] (by kernel_rfl) ?_
  refine Plan.constBytes h (f := fun q => VU .u8 (lit (jefe : List Byte) q)) FK2.slu22 FK2.u5 FK2.sz5 FK2.zv5 (by decide) (by decide) rfl (fun _ => rfl) (fun _ => rfl) rfl (by kernel_rfl) fun b1 w1 hb1 h1 => ?_
  refine Plan.constBytes h1 (f := fun q => VU .u8 (lit (jmsg : List Byte) q)) FK2.slu22 FK2.u5 FK2.sz5 FK2.zv5 (by decide) (by decide) rfl (fun _ => rfl) (fun _ => rfl) rfl (by kernel_rfl) fun b2 w2 hb2 h2 => ?_
  refine Plan.buildSlice h2 (ps := [(1, fun i => .slice ((fun i => ([(some ⟨b2, 0, none⟩)] : List (Option Addr)).getD i none) i) ((fun i => [28].getD i 0) i) ((fun i => [28].getD i 0) i))]) FK2.slu75 FK2.sz22 FK2.zv22 (by decide) (by decide) rfl rfl rfl (EffO.keep PIn.nil) fun b3 w3 hb3 h3 => ?_
  simp only [rngs, List.cons_append, List.nil_append] at h3
  refine Plan.callS rfl FK2.call36 rfl (mac_spec (Z := jmsg) (iG := (iG + 3)) hG (i1 := (i1 + 3)) hH (Bs.of 2 rfl (len := 4) (cc := 4) (by omega) (by omega)) rfl (iP := 0) (pa := fun i => ([(some ⟨b2, 0, none⟩)] : List (Option Addr)).getD i none) (pl := fun i => [28].getD i 0) (pc := fun i => [28].getD i 0) (XP := fun i => ([(jmsg : List Byte)] : List (List Byte)).getD i []) rfl (fun _ => ⟨_, rfl, rfl⟩) (Nat.le_refl _) (by decide) (fun i hi => match i, hi with | 0, _ => ⟨(Bs.of 1 rfl (len := 28) (cc := 28) (by omega) (by omega)), rfl⟩ | k + 1, hk => absurd hk (by omega)) (by simp [List.range_succ]) (by omega) (by omega) h3) PIn.nil fun w4 h4 => ?_
  refine Plan.alloc h4 rfl FK2.z32 PIn.nil fun b5 w5 hb5 h5 => ?_
  simp only [rngs, Nat.zero_add, Nat.reduceAdd, List.cons_append, List.nil_append] at h5
  refine Plan.storeA h5 0 rfl rfl rfl rfl (fun _ _ => rfl) FK2.sz32 rfl fun w6 h6 => ?_
  simp only [List.set_cons_zero, List.set_cons_succ] at h6
  refine Plan.nil ?_
  refine hK2 _ _ ?_; clear hK2
  refine W.seq_k fun K3 hK3 => ?_
  refine W.regionT [(0, true), (1, true), (2, true), (3, true), (4, true), (5, true), (6, true), (7, true), (8, true), (9, true), (10, true), (11, true), (12, true), (13, true)] (by kernel_rfl) ?_
  refine Plan.idxArr1 (j := 0) FK2.arr32 rfl rfl rfl (by omega) ?_
  refine Plan.load1 h6 0 rfl rfl rfl (by omega) FK2.sc5 ?_
  refine Plan.eqT rfl rfl rfl jm0 ?_
  refine Plan.move_bool rfl rfl ?_
  refine Plan.idxArr1 (j := 1) FK2.arr32 rfl rfl rfl (by omega) ?_
  refine Plan.load1 h6 0 rfl rfl rfl (by omega) FK2.sc5 ?_
  refine Plan.eqT rfl rfl rfl jm1 ?_
  refine Plan.pickTb rfl rfl rfl ?_
  refine Plan.move_bool rfl rfl ?_
  refine Plan.idxArr1 (j := 31) FK2.arr32 rfl rfl rfl (by omega) ?_
  refine Plan.load1 h6 0 rfl rfl rfl (by omega) FK2.sc5 ?_
  refine Plan.eqT rfl rfl rfl jm31 ?_
  refine Plan.pickTb rfl rfl rfl ?_
  refine Plan.assign_bool rfl rfl ?_
  refine Plan.nil ?_
  refine hK3 _ _ ?_; clear hK3
  refine W.ret (finR_ret ?_)
  refine RetOk.mk (.tmp_bool rfl .nil) ?_
  exact ⟨rfl, h6.tl.tl.tl.tl⟩

end Go.Proofs.YtjdgbahjpdopbaaDoor
