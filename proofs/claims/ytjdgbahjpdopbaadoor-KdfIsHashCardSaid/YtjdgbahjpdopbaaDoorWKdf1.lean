/-
  WALKS, printed by this session's own generator (gen.py).
-/
import Derived.Test.YtjdgbahjpdopbaaDoorProg
import Derived.Test.YtjdgbahjpdopbaaDoorWShaL
import Derived.Test.YtjdgbahjpdopbaaDoorLw15
namespace Go.Proofs.YtjdgbahjpdopbaaDoor
set_option linter.unusedSimpArgs false
set_option linter.unusedVariables false
set_option linter.unusedSectionVars false
open Go Go.LW
theorem FK1.z30 : zeroIs Tryd.prog 30 [(64, fun _ => VU .u8 0#8)] := zeroIs_agg (by kernel_rfl)
theorem FK1.isl22 : ∃ el, Tryd.prog.underlying 22 = some (.slice el) := ⟨5, by kernel_rfl⟩
theorem FK1.zv22 : (Tryd.prog.info? 22).bind (·.zero) = some (.slice none 0 0) := by kernel_rfl
theorem FK1.slu75 : Tryd.prog.underlying 75 = some (.slice 22) := by kernel_rfl
theorem FK1.sz22 : szT Tryd.prog 22 1 = true := by kernel_rfl
theorem FK1.call21 : callB Tryd.prog 21 = true := by kernel_rfl
theorem FK1.z32 : zeroIs Tryd.prog 32 [(32, fun _ => VU .u8 0#8)] := zeroIs_agg (by kernel_rfl)
theorem FK1.sz32 : szT Tryd.prog 32 32 = true := by kernel_rfl
theorem FK1.arr32 : arrB Tryd.prog 32 32 1 = true := by kernel_rfl
theorem FK1.arr30 : arrB Tryd.prog 30 64 1 = true := by kernel_rfl
theorem FK1.sl22 : slB Tryd.prog 22 1 = true := by kernel_rfl
theorem FK1.sc5 : scalarT Tryd.prog 5 = true := by kernel_rfl
theorem FK1.sz5 : szT Tryd.prog 5 1 = true := by kernel_rfl
theorem FK1.call23 : callB Tryd.prog 23 = true := by kernel_rfl
theorem FK1.call56 : callB Tryd.prog 56 = true := by kernel_rfl
theorem FK1.call25 : callB Tryd.prog 25 = true := by kernel_rfl
theorem FK1.isl75 : ∃ el, Tryd.prog.underlying 75 = some (.slice el) := ⟨22, by kernel_rfl⟩
theorem FK1.sl75 : slB Tryd.prog 75 1 = true := by kernel_rfl
theorem FK1.sc22 : scalarT Tryd.prog 22 = true := by kernel_rfl
theorem FK1.call27 : callB Tryd.prog 27 = true := by kernel_rfl
theorem FK1.mixed : Tryd.prog.follows .mixedOrders = true := by kernel_rfl
theorem FK1.agg32 : aggT Tryd.prog 32 32 = true := by kernel_rfl

/-- the key of at most 64 bytes -/
def keyL (KK H0 : Nat → BitVec 32) (X : List Byte) : List Byte := if 64 < X.length then dl 32 (shaL KK H0 X) else X
def padL (KK H0 : Nat → BitVec 32) (X : List Byte) (x : Byte) : List Byte := dl 64 fun q => lit (keyL KK H0 X) q ^^^ x
theorem keyL_big {KK H0 : Nat → BitVec 32} {X : List Byte} (h : 64 < X.length) : keyL KK H0 X = dl 32 (shaL KK H0 X) := if_pos h
theorem keyL_small {KK H0 : Nat → BitVec 32} {X : List Byte} (h : ¬ 64 < X.length) : keyL KK H0 X = X := if_neg h
theorem lit_out {s : Nat} {X : List (BitVec s)} {q : Nat} (h : X.length ≤ q) : lit X q = 0#s := by
  unfold lit; rw [List.getD_eq_getElem?_getD, List.getElem?_eq_none h]; rfl
theorem padTo {KK H0 : Nat → BitVec 32} {X K : List Byte} {x : Byte} {c : Nat} (hK : keyL KK H0 X = K) (hc : c = K.length) (h64 : c ≤ 64) : ∀ q, q < 64 → xorTo (spl (fun _ => 0#8) 0 c (lit K)) x 64 q = lit (padL KK H0 X x) q := fun q hq => by
  unfold padL
  rw [xorTo_at _ _ _ _ hq, lit_dl _ hq, hK]
  by_cases h : q < c
  · rw [spl_in _ _ _ _ _ (by omega), Nat.sub_zero]
  · rw [spl_out _ _ _ _ _ (by omega), lit_out (by omega)]

set_option maxRecDepth 8000 in
set_option maxHeartbeats 1000000 in
theorem padded_spec {B : Nat} {w0 w : World} {L : List Rg} {KK : Nat → BitVec 32} {iG : Nat} (hG : L[iG]? = some ⟨some 0, 0, 64, fun q => VU .u32 (KK q), false⟩) {i1 : Nat} (hH : L[i1]? = some ⟨some 1, 0, 8, fun q => VU .u32 (H256 q), false⟩) {aK : Option Addr} {nK cK : Nat} {XK : List Byte} (hXK : Bs L aK nK cK (lit XK)) (hlK : XK.length = nK) {x : Byte} (hn : XK.length < 9223372036854770000) (h : St B w0 L w) :
    Calls Tryd.prog 56 #[.slice aK nK cK, VU .u8 x] w fun e w' => ∃ b, e = .returned (.slice (some ⟨b, 0 + 0 * 1, none⟩) (64 - 0) (64 - 0)) ∧ St B w0 (⟨some b, 0, 64, fun q => VU .u8 (lit (padL KK H256 XK x) q), true⟩ :: L) w' ∧ B ≤ b := by
  refine W.enter 29 Tryd.func56 rfl rfl rfl ?_
  refine W.seq_k fun K1 hK1 => ?_
  refine W.regionT [(0, true)] (by kernel_rfl) ?_
  refine Plan.assign_slice rfl rfl ?_
  refine Plan.nil ?_
  refine hK1 _ _ ?_; clear hK1
  refine W.seq_k fun K2 hK2 => ?_
  refine W.regionT [(0, false)] (by kernel_rfl) ?_
  refine Plan.alloc h rfl FK1.z30 PIn.nil fun b1 w1 hb1 h1 => ?_
  simp only [rngs, Nat.zero_add, Nat.reduceAdd, List.cons_append, List.nil_append] at h1
  refine Plan.nil ?_
  refine hK2 _ _ ?_; clear hK2
  refine W.seq_k fun K3 hK3 => ?_
  refine W.seq_k fun K4 hK4 => ?_
  refine W.regionT [(0, true), (1, true), (2, true)] (by kernel_rfl) ?_
  refine Plan.move_slice rfl rfl ?_
  refine Plan.len FK1.isl22 rfl rfl ?_
  refine Plan.gtS rfl rfl rfl ?_ ?_
  ·
    intro hc2
    refine Plan.nil ?_
    refine hK4 _ _ ?_; clear hK4
    refine W.condT rfl ?_
    refine W.seq_k fun K5 hK5 => ?_
    refine W.regionT [(0, true), (1, false), (2, false), (3, false), (4, false)] (by kernel_rfl) ?_
    refine Plan.move_slice rfl rfl ?_
    refine Plan.buildSlice h1 (ps := [(1, fun i => .slice ((fun i => ([aK] : List (Option Addr)).getD i none) i) ((fun i => [nK].getD i 0) i) ((fun i => [cK].getD i 0) i))]) FK1.slu75 FK1.sz22 FK1.zv22 (by decide) (by decide) rfl rfl rfl (EffO.keep PIn.nil) fun b3 w3 hb3 h3 => ?_
    simp only [rngs, List.cons_append, List.nil_append] at h3
    refine Plan.callS rfl FK1.call21 rfl (sumall_z (Z := XK) (iG := (iG + 2)) hG (i1 := (i1 + 2)) hH (iP := 0) (pa := fun i => ([aK] : List (Option Addr)).getD i none) (pl := fun i => [nK].getD i 0) (pc := fun i => [cK].getD i 0) (X := fun i => ([XK] : List (List Byte)).getD i []) h3 rfl (fun _ => ⟨_, rfl, rfl⟩) (Nat.le_refl _) (by decide) (fun i hi => match i, hi with | 0, _ => ⟨((hXK.cons _).cons _), hlK⟩ | k + 1, hk => absurd hk (by omega)) (by simp [List.range_succ]) (by first | omega | (simp only [seg, List.length_append, List.length_drop, List.length_take, List.length_nil, List.length_cons, List.length_replicate]; omega))) PIn.nil fun w4 h4 => ?_
    refine Plan.alloc h4 rfl FK1.z32 PIn.nil fun b5 w5 hb5 h5 => ?_
    simp only [rngs, Nat.zero_add, Nat.reduceAdd, List.cons_append, List.nil_append] at h5
    refine Plan.storeA h5 0 rfl rfl rfl rfl (fun _ _ => rfl) FK1.sz32 rfl fun w6 h6 => ?_
    simp only [List.set_cons_zero, List.set_cons_succ] at h6
    refine Plan.nil ?_
    refine hK5 _ _ ?_; clear hK5
    refine W.regionT [(0, true), (1, true)] (by kernel_rfl) ?_
    refine Plan.slArr FK1.arr32 rfl rfl rfl rfl (by omega) ?_
    refine Plan.assign_slice rfl rfl ?_
    refine Plan.nil ?_
    refine hK3 _ _ ?_; clear hK3
    refine W.seq_k fun K6 hK6 => ?_
    refine W.regionT [(0, true), (1, true), (2, false)] (by kernel_rfl) ?_
    refine Plan.slArr FK1.arr30 rfl rfl rfl rfl (by omega) ?_
    refine Plan.move_slice rfl rfl ?_
    refine Plan.copyB (jd := 0) h6 2 32 FK1.sl22 rfl rfl rfl rfl (Bs.dl 0 rfl) (fun _ => ⟨_, rfl, rfl⟩) rfl (by omega) (by omega) (EffO.keep PIn.nil) fun w7 h7 => ?_
    simp only [List.set_cons_zero, List.set_cons_succ] at h7
    refine Plan.nil ?_
    refine hK6 _ _ ?_; clear hK6
    refine W.seq_k fun K7 hK7 => ?_
    refine W.seq_k fun K8 hK8 => ?_
    refine W.regionT [(0, true)] (by kernel_rfl) ?_
    refine Plan.move_int rfl rfl ?_
    refine Plan.nil ?_
    refine hK8 _ _ ?_; clear hK8
    refine W.block ?_
    have h8 := St.pickT (C := [_, _, _]) h7 [2, 0, 1] (by decide)
    simp only [pick, List.filterMap_cons, List.filterMap_nil, List.getElem?_cons_zero, List.getElem?_cons_succ, List.cons_append, List.nil_append] at h8
    have h10 := St.pickT (C := [_, _, _]) h8 [0] (by decide)
    simp only [pick, List.filterMap_cons, List.filterMap_nil, List.getElem?_cons_zero, List.getElem?_cons_succ, List.cons_append, List.nil_append] at h10
    refine W.loop (fun mR e w => ∃ t : Nat, mR = 64 - t ∧ (t ≤ 64) ∧ EnvHas e [(1, VU .u8 x), (5, .pointer (some ⟨b1, 0, none⟩)), (18, VN t)] ∧ St B w0 (⟨some b1, 0, 64, fun q => VU .u8 (xorTo (spl (fun _ => 0#8) 0 32 (lit (dl 32 (shaL KK H256 (XK))))) x t q), true⟩ :: L) w) (_) ⟨0, rfl, by omega, (EnvHas.cons rfl (EnvHas.cons rfl (EnvHas.cons rfl EnvHas.nil))), h10⟩ ?_
    rintro _ ev11 wl11 ⟨t, rfl, ht, he11, h11⟩
    obtain ⟨ev11, rfl⟩ := he11.open
    refine W.seq_k fun K9 hK9 => ?_
    refine W.regionT [(0, true)] (by kernel_rfl) ?_
    refine Plan.ltS rfl rfl rfl ?_ ?_
    ·
      intro hc12
      refine Plan.nil ?_
      refine hK9 _ _ ?_; clear hK9
      refine W.seq_k fun K10 hK10 => ?_
      refine W.condT rfl ?_
      refine W.skip ?_
      refine hK10 _ _ ?_; clear hK10
      refine W.seq_k fun K11 hK11 => ?_
      refine W.block ?_
      refine W.seq_k fun K12 hK12 => ?_
      refine W.regionT [(0, true), (1, true)] (by kernel_rfl) ?_
      refine Plan.move_int rfl rfl ?_
      refine Plan.assign_int rfl rfl ?_
      refine Plan.nil ?_
      refine hK12 _ _ ?_; clear hK12
      refine W.regionT [(0, true), (1, true), (2, true), (3, true), (4, true), (5, true), (6, false)] (by kernel_rfl) ?_
      refine Plan.move_int rfl rfl ?_
      refine Plan.idxArr1 FK1.arr30 rfl rfl rfl (by omega) ?_
      refine Plan.load1 h11 0 rfl rfl rfl (by omega) FK1.sc5 ?_
      refine Plan.move_int rfl rfl ?_
      refine Plan.xorU .u8 rfl rfl rfl ?_
      refine Plan.idxArr1 FK1.arr30 rfl rfl rfl (by omega) ?_
      refine Plan.storeU h11 0 rfl rfl rfl rfl (by omega) FK1.sz5 rfl fun w13 h13 => ?_
      simp only [List.set_cons_zero, List.set_cons_succ] at h13
      refine Plan.nil ?_
      refine blockR_norm ?_
      refine hK11 _ _ ?_; clear hK11
      refine W.regionT [(0, true), (1, true)] (by kernel_rfl) ?_
      refine Plan.addN (b := 1) rfl rfl rfl (by omega) ?_
      refine Plan.move_int rfl rfl ?_
      refine Plan.nil ?_
      refine thenR_norm ?_
      refine ⟨_, ?_, t + 1, rfl, by omega, (EnvHas.cons rfl (EnvHas.cons rfl (EnvHas.cons rfl EnvHas.nil))), h13⟩
      omega
    ·
      intro hc14
      refine Plan.nil ?_
      refine hK9 _ _ ?_; clear hK9
      refine W.seq_k fun K13 hK13 => ?_
      refine W.condF rfl ?_
      refine W.exit (thenR_exit (thenR_exit (blockR_here ?_)))
      refine hK7 _ _ ?_; clear hK7
      refine W.seq_k fun K14 hK14 => ?_
      refine W.regionT [(0, true), (1, true)] (by kernel_rfl) ?_
      refine Plan.slArr FK1.arr30 rfl rfl rfl rfl (by omega) ?_
      refine Plan.assign_slice rfl rfl ?_
      refine Plan.nil ?_
      refine hK14 _ _ ?_; clear hK14
      refine W.ret (finR_ret ?_)
      refine RetOk.mk (.tmp_slice rfl .nil) ?_
      obtain rfl : t = 64 := by omega
      exact ⟨_, rfl, h11.head (fun q hq => congrArg (VU .u8) (padTo (keyL_big (by omega)) (dl_length _ _).symm (by decide) q hq)), hb1⟩
  ·
    intro hc15
    refine Plan.nil ?_
    refine hK4 _ _ ?_; clear hK4
    refine W.condF rfl ?_
    refine W.skip ?_
    refine hK3 _ _ ?_; clear hK3
    refine W.seq_k fun K15 hK15 => ?_
    refine W.regionT [(0, true), (1, true), (2, false)] (by kernel_rfl) ?_
    refine Plan.slArr FK1.arr30 rfl rfl rfl rfl (by omega) ?_
    refine Plan.move_slice rfl rfl ?_
    refine Plan.copyB (jd := 0) h1 0 nK FK1.sl22 rfl rfl rfl rfl (hXK.cons _) (fun _ => ⟨_, rfl, rfl⟩) rfl (by omega) (by omega) (EffO.keep PIn.nil) fun w16 h16 => ?_
    simp only [List.set_cons_zero, List.set_cons_succ] at h16
    refine Plan.nil ?_
    refine hK15 _ _ ?_; clear hK15
    refine W.seq_k fun K16 hK16 => ?_
    refine W.seq_k fun K17 hK17 => ?_
    refine W.regionT [(0, true)] (by kernel_rfl) ?_
    refine Plan.move_int rfl rfl ?_
    refine Plan.nil ?_
    refine hK17 _ _ ?_; clear hK17
    refine W.block ?_
    refine W.loop (fun mR e w => ∃ t : Nat, mR = 64 - t ∧ (t ≤ 64) ∧ EnvHas e [(1, VU .u8 x), (5, .pointer (some ⟨b1, 0, none⟩)), (18, VN t)] ∧ St B w0 (⟨some b1, 0, 64, fun q => VU .u8 (xorTo (spl (fun _ => 0#8) 0 nK (lit XK)) x t q), true⟩ :: L) w) (_) ⟨0, rfl, by omega, (EnvHas.cons rfl (EnvHas.cons rfl (EnvHas.cons rfl EnvHas.nil))), h16⟩ ?_
    rintro _ ev18 wl18 ⟨t, rfl, ht, he18, h18⟩
    obtain ⟨ev18, rfl⟩ := he18.open
    refine W.seq_k fun K18 hK18 => ?_
    refine W.regionT [(0, true)] (by kernel_rfl) ?_
    refine Plan.ltS rfl rfl rfl ?_ ?_
    ·
      intro hc19
      refine Plan.nil ?_
      refine hK18 _ _ ?_; clear hK18
      refine W.seq_k fun K19 hK19 => ?_
      refine W.condT rfl ?_
      refine W.skip ?_
      refine hK19 _ _ ?_; clear hK19
      refine W.seq_k fun K20 hK20 => ?_
      refine W.block ?_
      refine W.seq_k fun K21 hK21 => ?_
      refine W.regionT [(0, true), (1, true)] (by kernel_rfl) ?_
      refine Plan.move_int rfl rfl ?_
      refine Plan.assign_int rfl rfl ?_
      refine Plan.nil ?_
      refine hK21 _ _ ?_; clear hK21
      refine W.regionT [(0, true), (1, true), (2, true), (3, true), (4, true), (5, true), (6, false)] (by kernel_rfl) ?_
      refine Plan.move_int rfl rfl ?_
      refine Plan.idxArr1 FK1.arr30 rfl rfl rfl (by omega) ?_
      refine Plan.load1 h18 0 rfl rfl rfl (by omega) FK1.sc5 ?_
      refine Plan.move_int rfl rfl ?_
      refine Plan.xorU .u8 rfl rfl rfl ?_
      refine Plan.idxArr1 FK1.arr30 rfl rfl rfl (by omega) ?_
      refine Plan.storeU h18 0 rfl rfl rfl rfl (by omega) FK1.sz5 rfl fun w20 h20 => ?_
      simp only [List.set_cons_zero, List.set_cons_succ] at h20
      refine Plan.nil ?_
      refine blockR_norm ?_
      refine hK20 _ _ ?_; clear hK20
      refine W.regionT [(0, true), (1, true)] (by kernel_rfl) ?_
      refine Plan.addN (b := 1) rfl rfl rfl (by omega) ?_
      refine Plan.move_int rfl rfl ?_
      refine Plan.nil ?_
      refine thenR_norm ?_
      refine ⟨_, ?_, t + 1, rfl, by omega, (EnvHas.cons rfl (EnvHas.cons rfl (EnvHas.cons rfl EnvHas.nil))), h20⟩
      omega
    ·
      intro hc21
      refine Plan.nil ?_
      refine hK18 _ _ ?_; clear hK18
      refine W.seq_k fun K22 hK22 => ?_
      refine W.condF rfl ?_
      refine W.exit (thenR_exit (thenR_exit (blockR_here ?_)))
      refine hK16 _ _ ?_; clear hK16
      refine W.seq_k fun K23 hK23 => ?_
      refine W.regionT [(0, true), (1, true)] (by kernel_rfl) ?_
      refine Plan.slArr FK1.arr30 rfl rfl rfl rfl (by omega) ?_
      refine Plan.assign_slice rfl rfl ?_
      refine Plan.nil ?_
      refine hK23 _ _ ?_; clear hK23
      refine W.ret (finR_ret ?_)
      refine RetOk.mk (.tmp_slice rfl .nil) ?_
      obtain rfl : t = 64 := by omega
      exact ⟨_, rfl, h18.head (fun q hq => congrArg (VU .u8) (padTo (keyL_small (by omega)) (by omega) (by omega) q hq)), hb1⟩


def macL (KK H0 : Nat → BitVec 32) (X Z : List Byte) : Nat → Byte := shaL KK H0 (padL KK H0 X 92#8 ++ dl 32 (shaL KK H0 (padL KK H0 X 54#8 ++ Z)))
def flat (X : Nat → List Byte) (n : Nat) : List Byte := (List.range n).flatMap X
theorem flat_succ (X : Nat → List Byte) (n : Nat) : flat X (n + 1) = flat X n ++ X n := by unfold flat; rw [List.range_succ, List.flatMap_append]; simp
theorem flat_le (X : Nat → List Byte) {i : Nat} : ∀ k, (flat X i).length ≤ (flat X (i + k)).length
  | 0 => Nat.le_refl _
  | k + 1 => by
    have := flat_le X (i := i) k
    rw [← Nat.add_assoc, flat_succ, List.length_append]; omega
theorem flat_mono (X : Nat → List Byte) {i j : Nat} (h : i ≤ j) : (flat X i).length ≤ (flat X j).length := by
  obtain ⟨k, rfl⟩ := Nat.le.dest h; exact flat_le X k
theorem padL_length (KK H0 : Nat → BitVec 32) (X : List Byte) (x : Byte) : (padL KK H0 X x).length = 64 := dl_length _ _

set_option maxRecDepth 8000 in
set_option maxHeartbeats 1000000 in
theorem mac_spec {B : Nat} {w0 w : World} {L : List Rg} {KK : Nat → BitVec 32} {iG : Nat} (hG : L[iG]? = some ⟨some 0, 0, 64, fun q => VU .u32 (KK q), false⟩) {i1 : Nat} (hH : L[i1]? = some ⟨some 1, 0, 8, fun q => VU .u32 (H256 q), false⟩) {aK : Option Addr} {nK cK : Nat} {XK : List Byte} (hXK : Bs L aK nK cK (lit XK)) (hlK : XK.length = nK) {iP np np' oP cP : Nat} {aP pP : Option _} {pa : Nat → Option Addr} {pl pc : Nat → Nat} {XP : Nat → List Byte} {rwP : Bool} (hP : L[iP]? = some ⟨pP, oP, np', fun i => .slice (pa i) (pl i) (pc i), rwP⟩) (hslP : SlV aP pP oP np) (hnp : np ≤ np') (hnp2 : np < 9223372036854775807) (hPs : ∀ i, i < np → Bs L (pa i) (pl i) (pc i) (lit (XP i)) ∧ (XP i).length = pl i) {Z : List Byte} (hZ : (List.range np).flatMap XP = Z) (hN : Z.length < 9223372036854770000 - 64) (hnK : XK.length < 9223372036854770000) (h : St B w0 L w) :
    Calls Tryd.prog 36 #[.slice aK nK cK, .slice aP np cP] w fun e w' => e = .returned (AG [(32, fun q => VU .u8 (macL KK H256 XK Z q))]) ∧ St B w0 L w' := by
  refine W.enter 31 Tryd.func36 rfl rfl rfl ?_
  subst hZ
  change (flat XP np).length < _ at hN
  refine W.seq_k fun K1 hK1 => ?_
  refine W.regionT [(0, false)] (by kernel_rfl) ?_
  refine Plan.alloc h rfl FK1.z32 PIn.nil fun b1 w1 hb1 h1 => ?_
  simp only [rngs, Nat.zero_add, Nat.reduceAdd, List.cons_append, List.nil_append] at h1
  refine Plan.nil ?_
  refine hK1 _ _ ?_; clear hK1
  refine W.seq_k fun K2 hK2 => ?_
  refine W.regionT [(0, false), (1, true)] (by kernel_rfl) ?_
  refine Plan.callE rfl FK1.call23 rfl (new_spec (i1 := (i1 + 1)) hH h1) (fun b => PIn.nil) fun b2 w2 h2 hb2 => ?_
  refine Plan.assign_ptr rfl rfl ?_
  refine Plan.nil ?_
  refine hK2 _ _ ?_; clear hK2
  refine W.seq_k fun K3 hK3 => ?_
  refine W.regionT [(0, true), (1, true), (2, false), (3, false)] (by kernel_rfl) ?_
  refine Plan.move_ptr rfl rfl ?_
  refine Plan.move_slice rfl rfl ?_
  refine Plan.callE rfl FK1.call56 rfl (padded_spec (x := 54#8) (iG := (iG + 4)) hG (i1 := (i1 + 4)) hH ((((hXK.cons _).cons _).cons _).cons _) hlK (by omega) h2) (fun b => PIn.nil) fun b3 w3 h3 hb3 => ?_
  have h4 := St.pickT (C := [_, _, _, _, _]) h3 [1, 2, 3, 0, 4] (by decide)
  simp only [pick, List.filterMap_cons, List.filterMap_nil, List.getElem?_cons_zero, List.getElem?_cons_succ, List.cons_append, List.nil_append] at h4
  refine Plan.callE rfl FK1.call25 rfl (write_l (X := ([] : List Byte)) (Y := (padL KK H256 XK 54#8)) (iG := iG + 2) hG h4 (Bs.of 0 rfl (len := 64 - 0) (cc := 64 - 0) (by omega) (by omega)) (padL_length _ _ _ _) (by first | omega | (simp only [List.length_append, padL_length, dl_length, List.length_nil]; omega)) (HoldsL.new _ _ _)) (fun sb => PIn.nil) fun sb5 w5 h5 hI5 => ?_
  rw [show (([] : List Byte) ++ (padL KK H256 XK 54#8)) = (padL KK H256 XK 54#8 ++ flat XP 0) from by simp [flat]] at h5 hI5
  refine Plan.nil ?_
  refine hK3 _ _ ?_; clear hK3
  refine W.seq_k fun K4 hK4 => ?_
  refine W.seq_k fun K5 hK5 => ?_
  refine W.regionT [(0, true), (1, true), (2, true)] (by kernel_rfl) ?_
  refine Plan.move_slice rfl rfl ?_
  refine Plan.len FK1.isl75 rfl rfl ?_
  refine Plan.move_int rfl rfl ?_
  refine Plan.nil ?_
  refine hK5 _ _ ?_; clear hK5
  refine W.block ?_
  have h6 := St.pickT (C := [_, _, _, _, _]) h5 [0, 1, 2, 4] (by decide)
  simp only [pick, List.filterMap_cons, List.filterMap_nil, List.getElem?_cons_zero, List.getElem?_cons_succ, List.cons_append, List.nil_append] at h6
  refine W.loop (fun mR e w => ∃ (t : Nat) (st' : Nat → BitVec 32) (blk' : Nat → BitVec 8), mR = np - t ∧ (t ≤ np) ∧ (HoldsL KK H256 (padL KK H256 XK 54#8 ++ flat XP t) st' blk') ∧ EnvHas e [(0, .slice aK nK cK), (4, .pointer (some ⟨b1, 0, none⟩)), (5, .pointer (some ⟨b2, 0, none⟩)), (14, .slice aP np cP), (15, VN np), (16, VN t)] ∧ St B w0 (⟨some b2, 0, 8, fun q => VU .u32 (st' q), true⟩ :: ⟨some b2, 8, 64, fun q => VU .u8 (blk' q), true⟩ :: ⟨some b2, 72, 1, fun _ => VN ((padL KK H256 XK 54#8 ++ flat XP t).length), true⟩ :: ⟨some b1, 0, 32, fun _ => VU .u8 0#8, true⟩ :: L) w) (_) ⟨0, _, _, rfl, by omega, hI5, (EnvHas.cons rfl (EnvHas.cons rfl (EnvHas.cons rfl (EnvHas.cons rfl (EnvHas.cons rfl (EnvHas.cons rfl EnvHas.nil)))))), h6⟩ ?_
  rintro _ ev7 wl7 ⟨t, st', blk', rfl, ht, hI', he7, h7⟩
  obtain ⟨ev7, rfl⟩ := he7.open
  refine W.seq_k fun K6 hK6 => ?_
  refine W.regionT [(0, true)] (by kernel_rfl) ?_
  refine Plan.ltS rfl rfl rfl ?_ ?_
  ·
    intro hc8
    have hfl := flat_mono XP (show t + 1 ≤ np by omega)
    have hfs : (flat XP (t + 1)).length = (flat XP t).length + (XP t).length := by rw [flat_succ, List.length_append]
    have hpt := (hPs t (by omega)).2
    obtain ⟨bP, rfl, rfl⟩ := hslP (by omega)
    refine Plan.nil ?_
    refine hK6 _ _ ?_; clear hK6
    refine W.seq_k fun K7 hK7 => ?_
    refine W.condT rfl ?_
    refine W.skip ?_
    refine hK7 _ _ ?_; clear hK7
    refine W.seq_k fun K8 hK8 => ?_
    refine W.block ?_
    refine W.seq_k fun K9 hK9 => ?_
    refine W.regionT [(0, true), (1, true), (2, true)] (by kernel_rfl) ?_
    refine Plan.idxSl1 FK1.sl75 rfl rfl rfl (by omega) ?_
    refine Plan.load1 h7 (iP + 4) rfl rfl hP (by omega) FK1.sc22 ?_
    refine Plan.assign_slice rfl rfl ?_
    refine Plan.nil ?_
    refine hK9 _ _ ?_; clear hK9
    refine W.regionT [(0, true), (1, true), (2, false)] (by kernel_rfl) ?_
    refine Plan.move_ptr rfl rfl ?_
    refine Plan.move_slice rfl rfl ?_
    refine Plan.callE rfl FK1.call25 rfl (write_l (X := (padL KK H256 XK 54#8 ++ flat XP t)) (Y := (XP t)) (iG := iG + 1) hG h7 ((hPs t (by omega)).1.app [_]) (hPs t (by omega)).2 (by first | omega | (simp only [List.length_append, padL_length, dl_length, List.length_nil]; omega)) hI') (fun sb => PIn.nil) fun sb9 w9 h9 hI9 => ?_
    rw [show ((padL KK H256 XK 54#8 ++ flat XP t) ++ (XP t)) = (padL KK H256 XK 54#8 ++ flat XP (t + 1)) from by rw [List.append_assoc, flat_succ]] at h9 hI9
    refine Plan.nil ?_
    refine blockR_norm ?_
    refine hK8 _ _ ?_; clear hK8
    refine W.regionT [(0, true), (1, true)] (by kernel_rfl) ?_
    refine Plan.addN (b := 1) rfl rfl rfl (by omega) ?_
    refine Plan.move_int rfl rfl ?_
    refine Plan.nil ?_
    refine thenR_norm ?_
    refine ⟨_, ?_, t + 1, _, _, rfl, by omega, hI9, (EnvHas.cons rfl (EnvHas.cons rfl (EnvHas.cons rfl (EnvHas.cons rfl (EnvHas.cons rfl (EnvHas.cons rfl EnvHas.nil)))))), h9⟩
    omega
  ·
    intro hc10
    obtain rfl : t = np := by omega
    refine Plan.nil ?_
    refine hK6 _ _ ?_; clear hK6
    refine W.seq_k fun K10 hK10 => ?_
    refine W.condF rfl ?_
    refine W.exit (thenR_exit (thenR_exit (blockR_here ?_)))
    refine hK4 _ _ ?_; clear hK4
    refine W.seq_k fun K11 hK11 => ?_
    refine W.regionT [(0, true), (1, false), (2, false), (3, false)] (by kernel_rfl) ?_
    refine Plan.move_ptr rfl rfl ?_
    refine Plan.callS rfl FK1.call27 rfl (sum_l (X := (padL KK H256 XK 54#8 ++ flat XP t)) (iG := iG + 1) hG h7 hI' (by first | omega | (simp only [List.length_append, padL_length, dl_length, List.length_nil]; omega))) PIn.nil fun w11 h11 => ?_
    refine Plan.alloc h11 rfl FK1.z32 PIn.nil fun b12 w12 hb12 h12 => ?_
    simp only [rngs, Nat.zero_add, Nat.reduceAdd, List.cons_append, List.nil_append] at h12
    refine Plan.storeA h12 0 rfl rfl rfl rfl (fun _ _ => rfl) FK1.sz32 rfl fun w13 h13 => ?_
    simp only [List.set_cons_zero, List.set_cons_succ] at h13
    refine Plan.nil ?_
    refine hK11 _ _ ?_; clear hK11
    refine W.seq_k fun K12 hK12 => ?_
    refine W.regionD FK1.mixed [(0, true), (2, true), (1, false), (3, false), (4, false), (5, false)] (by kernel_rfl) ?_
    have h14 := h13.drew
    refine Plan.move_slice rfl rfl ?_
    refine Plan.slArr FK1.arr32 rfl rfl rfl rfl (by omega) ?_
    refine Plan.callE rfl FK1.call56 rfl (padded_spec (x := 92#8) (iG := (iG + 5)) hG (i1 := (i1 + 5)) hH (((((hXK.cons _).cons _).cons _).cons _).cons _) hlK (by omega) h14) (fun b => PIn.nil) fun b15 w15 h15 hb15 => ?_
    refine Plan.buildSlice h15 (ps := [(2, fun i => .slice ((fun i => ([(some ⟨b15, 0 + 0 * 1, none⟩), (some ⟨b12, 0 + 0 * 1, none⟩)] : List (Option Addr)).getD i none) i) ((fun i => [(64 - 0), (32 - 0)].getD i 0) i) ((fun i => [(64 - 0), (32 - 0)].getD i 0) i))]) FK1.slu75 FK1.sz22 FK1.zv22 (by decide) (by decide) rfl rfl rfl (EffO.keep PIn.nil) fun b16 w16 hb16 h16 => ?_
    simp only [rngs, List.cons_append, List.nil_append] at h16
    refine Plan.callS rfl FK1.call21 rfl (sumall_z (Z := (padL KK H256 XK 92#8) ++ (dl 32 (shaL KK H256 (padL KK H256 XK 54#8 ++ flat XP t)))) (iG := (iG + 7)) hG (i1 := (i1 + 7)) hH (iP := 0) (pa := fun i => ([(some ⟨b15, 0 + 0 * 1, none⟩), (some ⟨b12, 0 + 0 * 1, none⟩)] : List (Option Addr)).getD i none) (pl := fun i => [(64 - 0), (32 - 0)].getD i 0) (pc := fun i => [(64 - 0), (32 - 0)].getD i 0) (X := fun i => ([(padL KK H256 XK 92#8), (dl 32 (shaL KK H256 (padL KK H256 XK 54#8 ++ flat XP t)))] : List (List Byte)).getD i []) h16 rfl (fun _ => ⟨_, rfl, rfl⟩) (Nat.le_refl _) (by decide) (fun i hi => match i, hi with | 0, _ => ⟨(Bs.of 1 rfl (len := 64 - 0) (cc := 64 - 0) (by omega) (by omega)), (padL_length _ _ _ _)⟩ | 1, _ => ⟨(Bs.dl 2 rfl), (dl_length _ _)⟩ | k + 2, hk => absurd hk (by omega)) (by simp [List.range_succ]) (by first | omega | (simp only [List.length_append, padL_length, dl_length, List.length_nil]; omega))) PIn.nil fun w17 h17 => ?_
    refine Plan.storeA h17 6 rfl rfl rfl rfl (fun _ _ => rfl) FK1.sz32 rfl fun w18 h18 => ?_
    simp only [List.set_cons_zero, List.set_cons_succ] at h18
    refine Plan.nil ?_
    refine hK12 _ _ ?_; clear hK12
    refine W.ret (finR_ret ?_)
    refine RetOk.mk (.agg h18 rfl (.cons 6 rfl .nil) FK1.agg32 .nil) ?_
    exact ⟨rfl, h18.tl.tl.tl.tl.tl.tl.tl⟩

end Go.Proofs.YtjdgbahjpdopbaaDoor
