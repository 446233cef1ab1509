/-
  WALKS, printed by this session's own generator (gen.py).
-/
import Derived.Test.YtjdgbahjpdopbaaDoorProg
import Derived.Test.YtjdgbahjpdopbaaDoorWKdf2
namespace Go.Proofs.YtjdgbahjpdopbaaDoor
set_option linter.unusedSimpArgs false
set_option linter.unusedVariables false
set_option linter.unusedSectionVars false
open Go Go.LW
theorem FK3.call32 : callB Tryd.prog 32 = true := by kernel_rfl
theorem FK3.call33 : callB Tryd.prog 33 = true := by kernel_rfl
theorem FK3.isl22 : ∃ el, Tryd.prog.underlying 22 = some (.slice el) := ⟨5, by kernel_rfl⟩
theorem FK3.call34 : callB Tryd.prog 34 = true := by kernel_rfl
theorem FK3.sl22 : slB Tryd.prog 22 1 = true := by kernel_rfl
theorem FK3.el22 : elD Tryd.prog 22 = some (1, 1, some (VU .u8 0#8)) := by kernel_rfl
theorem FK3.call35 : callB Tryd.prog 35 = true := by kernel_rfl
theorem FK3.zv22 : (Tryd.prog.info? 22).bind (·.zero) = some (.slice none 0 0) := by kernel_rfl
theorem FK3.slu75 : Tryd.prog.underlying 75 = some (.slice 22) := by kernel_rfl
theorem FK3.sz22 : szT Tryd.prog 22 1 = true := by kernel_rfl
theorem FK3.call21 : callB Tryd.prog 21 = true := by kernel_rfl
theorem FK3.z32 : zeroIs Tryd.prog 32 [(32, fun _ => VU .u8 0#8)] := zeroIs_agg (by kernel_rfl)
theorem FK3.sz32 : szT Tryd.prog 32 32 = true := by kernel_rfl
theorem FK3.mixed : Tryd.prog.follows .mixedOrders = true := by kernel_rfl
theorem FK3.arr32 : arrB Tryd.prog 32 32 1 = true := by kernel_rfl
theorem FK3.call36 : callB Tryd.prog 36 = true := by kernel_rfl
theorem FK3.agg32 : aggT Tryd.prog 32 32 = true := by kernel_rfl
theorem FK3.arrI32 : arrIB Tryd.prog 32 32 .u8 = true := by kernel_rfl
theorem FK3.call37 : callB Tryd.prog 37 = true := by kernel_rfl

theorem macL_congr {KK H0 : Nat → BitVec 32} {X Z Z' : List Byte} (h : Z = Z') : ∀ q, q < 32 → macL KK H0 X Z q = macL KK H0 X Z' q := fun _ _ => by rw [h]

set_option maxRecDepth 8000 in
set_option maxHeartbeats 2000000 in
theorem isHash_spec {B : Nat} {w0 w : World} {L : List Rg} {iG : Nat} (hG : L[iG]? = some ⟨some 0, 0, 64, fun q => VU .u32 (K256 q), false⟩) {i1 : Nat} (hH : L[i1]? = some ⟨some 1, 0, 8, fun q => VU .u32 (H256 q), false⟩) {aK : Option Addr} {nK cK : Nat} {MK : Nat → Byte} (hBK : Bs L aK nK cK MK) {aA : Option Addr} {nA cA : Nat} {MA : Nat → Byte} (hBA : Bs L aA nA cA MA) {aB : Option Addr} {nB cB : Nat} {MB : Nat → Byte} (hBB : Bs L aB nB cB MB) {n : Int} (hn : -9223372036854775808 ≤ n ∧ n ≤ 9223372036854775807) (h : St B w0 L w) :
    Calls Tryd.prog 8 #[.slice aK nK cK, .slice aA nA cA, .slice aB nB cB, .int .i64 n] w fun e w' => e = .returned (.bool true) ∧ St B w0 L w' := by
  refine W.enter 77 Tryd.func8 rfl rfl rfl ?_
  obtain ⟨XK, hlK, hXK⟩ := hBK.list
  obtain ⟨XA, hlA, hXA⟩ := hBA.list
  obtain ⟨XB, hlB, hXB⟩ := hBB.list
  refine W.seq_k fun K1 hK1 => ?_
  refine W.regionT [(0, true)] (by kernel_rfl) ?_
  refine Plan.assign_bool rfl rfl ?_
  refine Plan.nil ?_
  refine hK1 _ _ ?_; clear hK1
  refine W.seq_k fun K2 hK2 => ?_
  refine W.seq_k fun K3 hK3 => ?_
  refine W.regionT [(0, false), (1, true)] (by kernel_rfl) ?_
  refine Plan.callS rfl FK3.call32 rfl (awake_spec (iG := (iG + 0)) hG (i1 := (i1 + 0)) hH h) PIn.nil fun w1 h1 => ?_
  refine Plan.notT rfl rfl ?_
  refine Plan.nil ?_
  refine hK3 _ _ ?_; clear hK3
  refine W.condF rfl ?_
  refine W.skip ?_
  refine hK2 _ _ ?_; clear hK2
  refine W.seq_k fun K4 hK4 => ?_
  refine W.regionT [(0, true), (1, false), (2, true), (3, false), (4, true), (5, false), (6, true), (7, true), (8, true)] (by kernel_rfl) ?_
  refine Plan.move_slice rfl rfl ?_
  refine Plan.callE rfl FK3.call33 rfl (short3_spec hXK hlK h1) (fun b => PIn.nil) fun p2 w2 h2 hsk => ?_
  obtain ⟨ak, ck⟩ := p2
  simp only at hsk
  have hlk : (XK.take 400).length ≤ 400 := by rw [List.length_take]; omega
  generalize XK.take 400 = k at *
  have hck := hsk.le
  refine Plan.move_slice rfl rfl ?_
  refine Plan.callE rfl FK3.call33 rfl (short3_spec hXA hlA h2) (fun b => PIn.nil) fun p3 w3 h3 hsa => ?_
  obtain ⟨aa, ca⟩ := p3
  simp only at hsa
  have hla : (XA.take 400).length ≤ 400 := by rw [List.length_take]; omega
  generalize XA.take 400 = a at *
  have hca := hsa.le
  refine Plan.move_slice rfl rfl ?_
  refine Plan.callE rfl FK3.call33 rfl (short3_spec hXB hlB h3) (fun b => PIn.nil) fun p4 w4 h4 hsb => ?_
  obtain ⟨ab, cb⟩ := p4
  simp only at hsb
  have hlb : (XB.take 400).length ≤ 400 := by rw [List.length_take]; omega
  generalize XB.take 400 = b at *
  have hcb := hsb.le
  refine Plan.assign_slice rfl rfl ?_
  refine Plan.assign_slice rfl rfl ?_
  refine Plan.assign_slice rfl rfl ?_
  refine Plan.nil ?_
  refine hK4 _ _ ?_; clear hK4
  refine W.seq_k fun K5 hK5 => ?_
  refine W.seq_k fun K6 hK6 => ?_
  refine W.regionT [(0, true), (1, true), (2, true)] (by kernel_rfl) ?_
  refine Plan.move_slice rfl rfl ?_
  refine Plan.len FK3.isl22 rfl rfl ?_
  refine Plan.gtS rfl rfl rfl ?_ ?_
  ·
    intro hc5
    refine Plan.nil ?_
    refine hK6 _ _ ?_; clear hK6
    refine W.condT rfl ?_
    refine W.regionT [(0, true), (1, true), (2, true), (3, true), (4, false), (5, true), (6, true), (7, true)] (by kernel_rfl) ?_
    refine Plan.move_slice rfl rfl ?_
    refine Plan.move_slice rfl rfl ?_
    refine Plan.len FK3.isl22 rfl rfl ?_
    refine Plan.move_int rfl rfl ?_
    refine Plan.call0 rfl FK3.call34 rfl (rest3_spec (n := n) (k := 2) (by exact hn) (by omega) _) ?_
    have hr9 := restM_lt (n) (k := 2) (by omega)
    generalize restM (n) (2) = r at *
    refine Plan.subN rfl rfl rfl (by omega) ?_
    refine Plan.slSl FK3.sl22 rfl rfl rfl ⟨_, rfl⟩ (by omega) ?_
    refine Plan.assign_slice rfl rfl ?_
    refine Plan.nil ?_
    refine hK5 _ _ ?_; clear hK5
    refine W.seq_k fun K7 hK7 => ?_
    refine W.regionT [(0, true), (1, false), (2, true), (3, false), (4, true)] (by kernel_rfl) ?_
    refine Plan.move_slice rfl rfl ?_
    have h6 := h4.ownNil
    refine Plan.appendL (X := ([] : List Byte)) (Y := a) h6 0 FK3.el22 FK3.sl22 rfl rfl rfl rfl OwnSl.nil (by omega) rfl (fun q hq => absurd hq (Nat.not_lt_zero q)) (hsa.cons _) rfl (by first | omega | (simp only [seg, List.length_append, List.length_drop, List.length_take, List.length_nil, List.length_cons, padL_length, dl_length]; omega)) (fun _ => EffO.keep PIn.nil) fun a7 pb7 cap7 F7 w7 ho7 hc7 hF7 h7 => ?_
    simp only [List.set_cons_zero, List.set_cons_succ] at h7
    refine Plan.move_slice rfl rfl ?_
    refine Plan.appendL (X := (([] : List Byte) ++ a)) (Y := b) h7 0 FK3.el22 FK3.sl22 rfl rfl rfl rfl ho7 (by omega) rfl hF7 (hsb.cons _) rfl (by first | omega | (simp only [seg, List.length_append, List.length_drop, List.length_take, List.length_nil, List.length_cons, padL_length, dl_length]; omega)) (fun _ => EffO.keep PIn.nil) fun a8 pb8 cap8 F8 w8 ho8 hc8 hF8 h8 => ?_
    simp only [List.set_cons_zero, List.set_cons_succ] at h8
    refine Plan.assign_slice rfl rfl ?_
    refine Plan.nil ?_
    refine hK7 _ _ ?_; clear hK7
    refine W.seq_k fun K8 hK8 => ?_
    refine W.regionT [(0, true), (1, false), (2, true), (3, false), (4, false), (5, false), (6, false)] (by kernel_rfl) ?_
    refine Plan.move_slice rfl rfl ?_
    refine Plan.callE rfl FK3.call35 rfl (turned_spec (x := 54#8) (iG := (iG + 1)) hG (i1 := (i1 + 1)) hH (Bs.seg (lo := 0) (hi := (k.length - r)) (hsk.cons _) rfl (by omega)) (seg_length (by omega)) (by first | omega | (simp only [seg, List.length_append, List.length_drop, List.length_take, List.length_nil, List.length_cons, padL_length, dl_length]; omega)) h8) (fun b => PIn.nil) fun b9 w9 h9 hb9 => ?_
    refine Plan.move_slice rfl rfl ?_
    refine Plan.buildSlice h9 (ps := [(2, fun i => .slice ((fun i => ([(some ⟨b9, 0, none⟩), a8] : List (Option Addr)).getD i none) i) ((fun i => [64, ((([] : List Byte) ++ a) ++ b).length].getD i 0) i) ((fun i => [64, cap8].getD i 0) i))]) FK3.slu75 FK3.sz22 FK3.zv22 (by decide) (by decide) rfl rfl rfl (EffO.keep PIn.nil) fun b10 w10 hb10 h10 => ?_
    simp only [rngs, List.cons_append, List.nil_append] at h10
    refine Plan.callS rfl FK3.call21 rfl (sumall_z (Z := (padL K256 H256 (seg k 0 (k.length - r)) 54#8) ++ ((([] : List Byte) ++ a) ++ b)) (iG := (iG + 3)) hG (i1 := (i1 + 3)) hH (iP := 0) (pa := fun i => ([(some ⟨b9, 0, none⟩), a8] : List (Option Addr)).getD i none) (pl := fun i => [64, ((([] : List Byte) ++ a) ++ b).length].getD i 0) (pc := fun i => [64, cap8].getD i 0) (X := fun i => ([(padL K256 H256 (seg k 0 (k.length - r)) 54#8), ((([] : List Byte) ++ a) ++ b)] : List (List Byte)).getD i []) h10 rfl (fun _ => ⟨_, rfl, rfl⟩) (Nat.le_refl _) (by decide) (fun i hi => match i, hi with | 0, _ => ⟨(Bs.of 1 rfl (len := 64) (cc := 64) (by omega) (by omega)), (padL_length _ _ _ _)⟩ | 1, _ => ⟨(Bs.ownL 2 rfl (len := ((([] : List Byte) ++ a) ++ b).length) (cap := cap8) ho8 (by omega) hF8), rfl⟩ | k + 2, hk => absurd hk (by omega)) (by simp [List.range_succ]) (by first | omega | (simp only [seg, List.length_append, List.length_drop, List.length_take, List.length_nil, List.length_cons, padL_length, dl_length]; omega))) PIn.nil fun w11 h11 => ?_
    refine Plan.alloc h11 rfl FK3.z32 PIn.nil fun b12 w12 hb12 h12 => ?_
    simp only [rngs, Nat.zero_add, Nat.reduceAdd, List.cons_append, List.nil_append] at h12
    refine Plan.storeA h12 0 rfl rfl rfl rfl (fun _ _ => rfl) FK3.sz32 rfl fun w13 h13 => ?_
    simp only [List.set_cons_zero, List.set_cons_succ] at h13
    refine Plan.nil ?_
    refine hK8 _ _ ?_; clear hK8
    refine W.seq_k fun K9 hK9 => ?_
    have h14 := St.pickT (C := [_, _, _, _]) h13 [3, 0] (by decide)
    simp only [pick, List.filterMap_cons, List.filterMap_nil, List.getElem?_cons_zero, List.getElem?_cons_succ, List.cons_append, List.nil_append] at h14
    refine W.cut (fun e w => ∃ bw : Nat, EnvHas e [(0, .slice (if ck = 0 then ak else (ak).map (·.add (0 * 1))) ((k.length - r) - 0) (ck - 0)), (1, .slice aa a.length ca), (2, .slice ab b.length cb), (9, .slice a8 ((([] : List Byte) ++ a) ++ b).length cap8), (11, .pointer (some ⟨bw, 0, none⟩))] ∧ St B w0 (⟨some bw, 0, 32, fun q => VU .u8 (macL K256 H256 (seg k 0 (k.length - r)) ((([] : List Byte) ++ a) ++ b) q), true⟩ :: ⟨pb8, 0, cap8, fun q => VU .u8 (F8 q), true⟩ :: L) w) ?_ ?_
    ·
      refine W.regionF FK3.mixed (.fork [(0, true), (2, true)] (.fork [(1, false)] (.fork [(3, false)] (.line [(4, false), (5, false), (6, false)]) (.line [(5, false), (4, false), (6, false)])) (.line [(5, false), (3, false), (4, false), (6, false)])) (.line [(5, false), (1, false), (3, false), (4, false), (6, false)])) (by kernel_rfl) (PlanT.toFork ?_)
      have h15 := h14.drew
      refine Plan.move_slice rfl rfl ?_
      refine Plan.slArr FK3.arr32 rfl rfl rfl rfl (by omega) ?_
      refine Plan.forked ?_ ?_
      ·
        refine PlanT.toFork ?_
        refine Plan.callE rfl FK3.call35 rfl (turned_spec (x := 92#8) (iG := (iG + 2)) hG (i1 := (i1 + 2)) hH (Bs.seg (lo := 0) (hi := (k.length - r)) ((hsk.cons _).cons _) rfl (by omega)) (seg_length (by omega)) (by first | omega | (simp only [seg, List.length_append, List.length_drop, List.length_take, List.length_nil, List.length_cons, padL_length, dl_length]; omega)) h15) (fun b => PIn.nil) fun b16 w16 h16 hb16 => ?_
        refine Plan.forked ?_ ?_
        ·
          refine PlanT.toFork ?_
          refine Plan.buildSlice h16 (ps := [(2, fun i => .slice ((fun i => ([(some ⟨b16, 0, none⟩), (some ⟨b12, 0 + 0 * 1, none⟩)] : List (Option Addr)).getD i none) i) ((fun i => [64, (32 - 0)].getD i 0) i) ((fun i => [64, (32 - 0)].getD i 0) i))]) FK3.slu75 FK3.sz22 FK3.zv22 (by decide) (by decide) rfl rfl rfl (EffO.keep PIn.nil) fun b17 w17 hb17 h17 => ?_
          simp only [rngs, List.cons_append, List.nil_append] at h17
          refine Plan.forked ?_ ?_
          ·
            refine PlanT.toLine ?_
            refine Plan.callS rfl FK3.call21 rfl (sumall_z (Z := (padL K256 H256 (seg k 0 (k.length - r)) 92#8) ++ (dl 32 (shaL K256 H256 ((padL K256 H256 (seg k 0 (k.length - r)) 54#8) ++ ((([] : List Byte) ++ a) ++ b))))) (iG := (iG + 4)) hG (i1 := (i1 + 4)) hH (iP := 0) (pa := fun i => ([(some ⟨b16, 0, none⟩), (some ⟨b12, 0 + 0 * 1, none⟩)] : List (Option Addr)).getD i none) (pl := fun i => [64, (32 - 0)].getD i 0) (pc := fun i => [64, (32 - 0)].getD i 0) (X := fun i => ([(padL K256 H256 (seg k 0 (k.length - r)) 92#8), (dl 32 (shaL K256 H256 ((padL K256 H256 (seg k 0 (k.length - r)) 54#8) ++ ((([] : List Byte) ++ a) ++ b))))] : List (List Byte)).getD i []) h17 rfl (fun _ => ⟨_, rfl, rfl⟩) (Nat.le_refl _) (by decide) (fun i hi => match i, hi with | 0, _ => ⟨(Bs.of 1 rfl (len := 64) (cc := 64) (by omega) (by omega)), (padL_length _ _ _ _)⟩ | 1, _ => ⟨(Bs.dl 3 rfl), (dl_length _ _)⟩ | k + 2, hk => absurd hk (by omega)) (by simp [List.range_succ]) (by first | omega | (simp only [seg, List.length_append, List.length_drop, List.length_take, List.length_nil, List.length_cons, padL_length, dl_length]; omega))) PIn.nil fun w18 h18 => ?_
            refine Plan.alloc h18 rfl FK3.z32 PIn.nil fun b19 w19 hb19 h19 => ?_
            simp only [rngs, Nat.zero_add, Nat.reduceAdd, List.cons_append, List.nil_append] at h19
            refine Plan.storeA h19 0 rfl rfl rfl rfl (fun _ _ => rfl) FK3.sz32 rfl fun w20 h20 => ?_
            simp only [List.set_cons_zero, List.set_cons_succ] at h20
            refine Plan.nil ?_
            refine thenR_norm ?_
            have h21 := St.pickT (C := [_, _, _, _, _]) h20 [0, 3] (by decide)
            simp only [pick, List.filterMap_cons, List.filterMap_nil, List.getElem?_cons_zero, List.getElem?_cons_succ, List.cons_append, List.nil_append] at h21
            exact ⟨b19, (EnvHas.cons rfl (EnvHas.cons rfl (EnvHas.cons rfl (EnvHas.cons rfl (EnvHas.cons rfl EnvHas.nil))))), h21⟩
          ·
            refine PlanT.toLine ?_
            refine Plan.alloc h17 rfl FK3.z32 PIn.nil fun b22 w22 hb22 h22 => ?_
            simp only [rngs, Nat.zero_add, Nat.reduceAdd, List.cons_append, List.nil_append] at h22
            refine Plan.callS rfl FK3.call21 rfl (sumall_z (Z := (padL K256 H256 (seg k 0 (k.length - r)) 92#8) ++ (dl 32 (shaL K256 H256 ((padL K256 H256 (seg k 0 (k.length - r)) 54#8) ++ ((([] : List Byte) ++ a) ++ b))))) (iG := (iG + 5)) hG (i1 := (i1 + 5)) hH (iP := 1) (pa := fun i => ([(some ⟨b16, 0, none⟩), (some ⟨b12, 0 + 0 * 1, none⟩)] : List (Option Addr)).getD i none) (pl := fun i => [64, (32 - 0)].getD i 0) (pc := fun i => [64, (32 - 0)].getD i 0) (X := fun i => ([(padL K256 H256 (seg k 0 (k.length - r)) 92#8), (dl 32 (shaL K256 H256 ((padL K256 H256 (seg k 0 (k.length - r)) 54#8) ++ ((([] : List Byte) ++ a) ++ b))))] : List (List Byte)).getD i []) h22 rfl (fun _ => ⟨_, rfl, rfl⟩) (Nat.le_refl _) (by decide) (fun i hi => match i, hi with | 0, _ => ⟨(Bs.of 2 rfl (len := 64) (cc := 64) (by omega) (by omega)), (padL_length _ _ _ _)⟩ | 1, _ => ⟨(Bs.dl 4 rfl), (dl_length _ _)⟩ | k + 2, hk => absurd hk (by omega)) (by simp [List.range_succ]) (by first | omega | (simp only [seg, List.length_append, List.length_drop, List.length_take, List.length_nil, List.length_cons, padL_length, dl_length]; omega))) PIn.nil fun w23 h23 => ?_
            refine Plan.storeA h23 0 rfl rfl rfl rfl (fun _ _ => rfl) FK3.sz32 rfl fun w24 h24 => ?_
            simp only [List.set_cons_zero, List.set_cons_succ] at h24
            refine Plan.nil ?_
            refine thenR_norm ?_
            have h25 := St.pickT (C := [_, _, _, _, _]) h24 [0, 3] (by decide)
            simp only [pick, List.filterMap_cons, List.filterMap_nil, List.getElem?_cons_zero, List.getElem?_cons_succ, List.cons_append, List.nil_append] at h25
            exact ⟨b22, (EnvHas.cons rfl (EnvHas.cons rfl (EnvHas.cons rfl (EnvHas.cons rfl (EnvHas.cons rfl EnvHas.nil))))), h25⟩
        ·
          refine PlanT.toLine ?_
          refine Plan.alloc h16 rfl FK3.z32 PIn.nil fun b26 w26 hb26 h26 => ?_
          simp only [rngs, Nat.zero_add, Nat.reduceAdd, List.cons_append, List.nil_append] at h26
          refine Plan.buildSlice h26 (ps := [(2, fun i => .slice ((fun i => ([(some ⟨b16, 0, none⟩), (some ⟨b12, 0 + 0 * 1, none⟩)] : List (Option Addr)).getD i none) i) ((fun i => [64, (32 - 0)].getD i 0) i) ((fun i => [64, (32 - 0)].getD i 0) i))]) FK3.slu75 FK3.sz22 FK3.zv22 (by decide) (by decide) rfl rfl rfl (EffO.keep PIn.nil) fun b27 w27 hb27 h27 => ?_
          simp only [rngs, List.cons_append, List.nil_append] at h27
          refine Plan.callS rfl FK3.call21 rfl (sumall_z (Z := (padL K256 H256 (seg k 0 (k.length - r)) 92#8) ++ (dl 32 (shaL K256 H256 ((padL K256 H256 (seg k 0 (k.length - r)) 54#8) ++ ((([] : List Byte) ++ a) ++ b))))) (iG := (iG + 5)) hG (i1 := (i1 + 5)) hH (iP := 0) (pa := fun i => ([(some ⟨b16, 0, none⟩), (some ⟨b12, 0 + 0 * 1, none⟩)] : List (Option Addr)).getD i none) (pl := fun i => [64, (32 - 0)].getD i 0) (pc := fun i => [64, (32 - 0)].getD i 0) (X := fun i => ([(padL K256 H256 (seg k 0 (k.length - r)) 92#8), (dl 32 (shaL K256 H256 ((padL K256 H256 (seg k 0 (k.length - r)) 54#8) ++ ((([] : List Byte) ++ a) ++ b))))] : List (List Byte)).getD i []) h27 rfl (fun _ => ⟨_, rfl, rfl⟩) (Nat.le_refl _) (by decide) (fun i hi => match i, hi with | 0, _ => ⟨(Bs.of 2 rfl (len := 64) (cc := 64) (by omega) (by omega)), (padL_length _ _ _ _)⟩ | 1, _ => ⟨(Bs.dl 4 rfl), (dl_length _ _)⟩ | k + 2, hk => absurd hk (by omega)) (by simp [List.range_succ]) (by first | omega | (simp only [seg, List.length_append, List.length_drop, List.length_take, List.length_nil, List.length_cons, padL_length, dl_length]; omega))) PIn.nil fun w28 h28 => ?_
          refine Plan.storeA h28 1 rfl rfl rfl rfl (fun _ _ => rfl) FK3.sz32 rfl fun w29 h29 => ?_
          simp only [List.set_cons_zero, List.set_cons_succ] at h29
          refine Plan.nil ?_
          refine thenR_norm ?_
          have h30 := St.pickT (C := [_, _, _, _, _]) h29 [1, 3] (by decide)
          simp only [pick, List.filterMap_cons, List.filterMap_nil, List.getElem?_cons_zero, List.getElem?_cons_succ, List.cons_append, List.nil_append] at h30
          exact ⟨b26, (EnvHas.cons rfl (EnvHas.cons rfl (EnvHas.cons rfl (EnvHas.cons rfl (EnvHas.cons rfl EnvHas.nil))))), h30⟩
      ·
        refine PlanT.toLine ?_
        refine Plan.alloc h15 rfl FK3.z32 PIn.nil fun b31 w31 hb31 h31 => ?_
        simp only [rngs, Nat.zero_add, Nat.reduceAdd, List.cons_append, List.nil_append] at h31
        refine Plan.callE rfl FK3.call35 rfl (turned_spec (x := 92#8) (iG := (iG + 3)) hG (i1 := (i1 + 3)) hH (Bs.seg (lo := 0) (hi := (k.length - r)) (((hsk.cons _).cons _).cons _) rfl (by omega)) (seg_length (by omega)) (by first | omega | (simp only [seg, List.length_append, List.length_drop, List.length_take, List.length_nil, List.length_cons, padL_length, dl_length]; omega)) h31) (fun b => PIn.nil) fun b32 w32 h32 hb32 => ?_
        refine Plan.buildSlice h32 (ps := [(2, fun i => .slice ((fun i => ([(some ⟨b32, 0, none⟩), (some ⟨b12, 0 + 0 * 1, none⟩)] : List (Option Addr)).getD i none) i) ((fun i => [64, (32 - 0)].getD i 0) i) ((fun i => [64, (32 - 0)].getD i 0) i))]) FK3.slu75 FK3.sz22 FK3.zv22 (by decide) (by decide) rfl rfl rfl (EffO.keep PIn.nil) fun b33 w33 hb33 h33 => ?_
        simp only [rngs, List.cons_append, List.nil_append] at h33
        refine Plan.callS rfl FK3.call21 rfl (sumall_z (Z := (padL K256 H256 (seg k 0 (k.length - r)) 92#8) ++ (dl 32 (shaL K256 H256 ((padL K256 H256 (seg k 0 (k.length - r)) 54#8) ++ ((([] : List Byte) ++ a) ++ b))))) (iG := (iG + 5)) hG (i1 := (i1 + 5)) hH (iP := 0) (pa := fun i => ([(some ⟨b32, 0, none⟩), (some ⟨b12, 0 + 0 * 1, none⟩)] : List (Option Addr)).getD i none) (pl := fun i => [64, (32 - 0)].getD i 0) (pc := fun i => [64, (32 - 0)].getD i 0) (X := fun i => ([(padL K256 H256 (seg k 0 (k.length - r)) 92#8), (dl 32 (shaL K256 H256 ((padL K256 H256 (seg k 0 (k.length - r)) 54#8) ++ ((([] : List Byte) ++ a) ++ b))))] : List (List Byte)).getD i []) h33 rfl (fun _ => ⟨_, rfl, rfl⟩) (Nat.le_refl _) (by decide) (fun i hi => match i, hi with | 0, _ => ⟨(Bs.of 1 rfl (len := 64) (cc := 64) (by omega) (by omega)), (padL_length _ _ _ _)⟩ | 1, _ => ⟨(Bs.dl 4 rfl), (dl_length _ _)⟩ | k + 2, hk => absurd hk (by omega)) (by simp [List.range_succ]) (by first | omega | (simp only [seg, List.length_append, List.length_drop, List.length_take, List.length_nil, List.length_cons, padL_length, dl_length]; omega))) PIn.nil fun w34 h34 => ?_
        refine Plan.storeA h34 2 rfl rfl rfl rfl (fun _ _ => rfl) FK3.sz32 rfl fun w35 h35 => ?_
        simp only [List.set_cons_zero, List.set_cons_succ] at h35
        refine Plan.nil ?_
        refine thenR_norm ?_
        have h36 := St.pickT (C := [_, _, _, _, _]) h35 [2, 3] (by decide)
        simp only [pick, List.filterMap_cons, List.filterMap_nil, List.getElem?_cons_zero, List.getElem?_cons_succ, List.cons_append, List.nil_append] at h36
        exact ⟨b31, (EnvHas.cons rfl (EnvHas.cons rfl (EnvHas.cons rfl (EnvHas.cons rfl (EnvHas.cons rfl EnvHas.nil))))), h36⟩
    · -- behind the loop
      rintro ev37 wl37 ⟨bw, he37, h37⟩
      obtain ⟨ev37, rfl⟩ := he37.open
      refine hK9 _ _ ?_; clear hK9
      refine W.seq_k fun K10 hK10 => ?_
      refine W.regionT [(0, true), (1, true), (2, false), (3, false), (4, false), (5, false)] (by kernel_rfl) ?_
      refine Plan.move_slice rfl rfl ?_
      refine Plan.move_slice rfl rfl ?_
      refine Plan.buildSlice h37 (ps := [(1, fun i => .slice ((fun i => ([a8] : List (Option Addr)).getD i none) i) ((fun i => [((([] : List Byte) ++ a) ++ b).length].getD i 0) i) ((fun i => [cap8].getD i 0) i))]) FK3.slu75 FK3.sz22 FK3.zv22 (by decide) (by decide) rfl rfl rfl (EffO.keep PIn.nil) fun b38 w38 hb38 h38 => ?_
      simp only [rngs, List.cons_append, List.nil_append] at h38
      refine Plan.callS rfl FK3.call36 rfl (mac_spec (Z := ((([] : List Byte) ++ a) ++ b)) (iG := (iG + 3)) hG (i1 := (i1 + 3)) hH (Bs.seg (lo := 0) (hi := (k.length - r)) (((hsk.cons _).cons _).cons _) rfl (by omega)) (seg_length (by omega)) (iP := 0) (pa := fun i => ([a8] : List (Option Addr)).getD i none) (pl := fun i => [((([] : List Byte) ++ a) ++ b).length].getD i 0) (pc := fun i => [cap8].getD i 0) (XP := fun i => ([((([] : List Byte) ++ a) ++ b)] : List (List Byte)).getD i []) rfl (fun _ => ⟨_, rfl, rfl⟩) (Nat.le_refl _) (by decide) (fun i hi => match i, hi with | 0, _ => ⟨(Bs.ownL 2 rfl (len := ((([] : List Byte) ++ a) ++ b).length) (cap := cap8) ho8 (by omega) hF8), rfl⟩ | k + 1, hk => absurd hk (by omega)) (by simp [List.range_succ]) (by first | omega | (simp only [seg, List.length_append, List.length_drop, List.length_take, List.length_nil, List.length_cons, padL_length, dl_length]; omega)) (by first | omega | (simp only [seg, List.length_append, List.length_drop, List.length_take, List.length_nil, List.length_cons, padL_length, dl_length]; omega)) h38) PIn.nil fun w39 h39 => ?_
      refine Plan.alloc h39 rfl FK3.z32 PIn.nil fun b40 w40 hb40 h40 => ?_
      simp only [rngs, Nat.zero_add, Nat.reduceAdd, List.cons_append, List.nil_append] at h40
      refine Plan.storeA h40 0 rfl rfl rfl rfl (fun _ _ => rfl) FK3.sz32 rfl fun w41 h41 => ?_
      simp only [List.set_cons_zero, List.set_cons_succ] at h41
      refine Plan.nil ?_
      refine hK10 _ _ ?_; clear hK10
      refine W.seq_k fun K11 hK11 => ?_
      refine W.regionD FK3.mixed [(0, true), (1, true), (2, true), (3, true), (4, true), (5, true), (6, true), (9, true), (7, false), (8, false), (10, true), (11, true), (12, true), (13, true), (14, true), (15, true), (18, true), (16, false), (17, false), (19, true), (20, true), (21, true), (22, true), (23, true), (25, true), (24, false), (26, true), (27, true), (28, true)] (by kernel_rfl) ?_
      have h42 := h41.drew
      refine Plan.loadA1 h42 0 rfl rfl rfl FK3.agg32 ?_
      refine Plan.loadA1 h42 2 rfl rfl rfl FK3.agg32 ?_
      refine Plan.eqArrT FK3.arrI32 rfl rfl rfl (fun _ _ => rfl) ?_
      refine Plan.move_bool rfl rfl ?_
      refine Plan.move_slice rfl rfl ?_
      refine Plan.move_slice rfl rfl ?_
      refine Plan.move_slice rfl rfl ?_
      refine Plan.loadA1 h42 2 rfl rfl rfl FK3.agg32 ?_
      refine Plan.buildSlice h42 (ps := [(2, fun i => .slice ((fun i => ([aa, ab] : List (Option Addr)).getD i none) i) ((fun i => [a.length, b.length].getD i 0) i) ((fun i => [ca, cb].getD i 0) i))]) FK3.slu75 FK3.sz22 FK3.zv22 (by decide) (by decide) rfl rfl rfl (EffO.keep (PIn.cons 2 rfl (PIn.cons 2 rfl (PIn.cons 0 rfl PIn.nil)))) fun b43 w43 hb43 h43 => ?_
      simp only [rngs, List.cons_append, List.nil_append] at h43
      refine Plan.callS rfl FK3.call36 rfl (mac_spec (Z := a ++ b) (iG := (iG + 5)) hG (i1 := (i1 + 5)) hH (Bs.seg (lo := 0) (hi := (k.length - r)) (((((hsk.cons _).cons _).cons _).cons _).cons _) rfl (by omega)) (seg_length (by omega)) (iP := 0) (pa := fun i => ([aa, ab] : List (Option Addr)).getD i none) (pl := fun i => [a.length, b.length].getD i 0) (pc := fun i => [ca, cb].getD i 0) (XP := fun i => ([a, b] : List (List Byte)).getD i []) rfl (fun _ => ⟨_, rfl, rfl⟩) (Nat.le_refl _) (by decide) (fun i hi => match i, hi with | 0, _ => ⟨(((((hsa.cons _).cons _).cons _).cons _).cons _), rfl⟩ | 1, _ => ⟨(((((hsb.cons _).cons _).cons _).cons _).cons _), rfl⟩ | k + 2, hk => absurd hk (by omega)) (by simp [List.range_succ]) (by first | omega | (simp only [seg, List.length_append, List.length_drop, List.length_take, List.length_nil, List.length_cons, padL_length, dl_length]; omega)) (by first | omega | (simp only [seg, List.length_append, List.length_drop, List.length_take, List.length_nil, List.length_cons, padL_length, dl_length]; omega)) h43) (PIn.cons 3 rfl (PIn.cons 3 rfl (PIn.cons 1 rfl PIn.nil))) fun w44 h44 => ?_
      refine Plan.eqArrT FK3.arrI32 rfl rfl rfl (macL_congr (by simp)) ?_
      refine Plan.pickTb rfl rfl rfl ?_
      refine Plan.move_bool rfl rfl ?_
      refine Plan.move_slice rfl rfl ?_
      refine Plan.move_slice rfl rfl ?_
      refine Plan.move_slice rfl rfl ?_
      refine Plan.loadA1 h44 3 rfl rfl rfl FK3.agg32 ?_
      refine Plan.buildSlice h44 (ps := [(5, fun i => .slice ((fun i => ([none, aa, none, ab, none] : List (Option Addr)).getD i none) i) ((fun i => [0, a.length, 0, b.length, 0].getD i 0) i) ((fun i => [0, ca, 0, cb, 0].getD i 0) i))]) FK3.slu75 FK3.sz22 FK3.zv22 (by decide) (by decide) rfl rfl rfl (EffO.keep (PIn.cons 3 rfl (PIn.cons 3 rfl (PIn.cons 3 rfl (PIn.cons 1 rfl PIn.nil))))) fun b45 w45 hb45 h45 => ?_
      simp only [rngs, List.cons_append, List.nil_append] at h45
      refine Plan.callS rfl FK3.call36 rfl (mac_spec (Z := ([] : List Byte) ++ a ++ ([] : List Byte) ++ b ++ ([] : List Byte)) (iG := (iG + 6)) hG (i1 := (i1 + 6)) hH (Bs.seg (lo := 0) (hi := (k.length - r)) ((((((hsk.cons _).cons _).cons _).cons _).cons _).cons _) rfl (by omega)) (seg_length (by omega)) (iP := 0) (pa := fun i => ([none, aa, none, ab, none] : List (Option Addr)).getD i none) (pl := fun i => [0, a.length, 0, b.length, 0].getD i 0) (pc := fun i => [0, ca, 0, cb, 0].getD i 0) (XP := fun i => ([([] : List Byte), a, ([] : List Byte), b, ([] : List Byte)] : List (List Byte)).getD i []) rfl (fun _ => ⟨_, rfl, rfl⟩) (Nat.le_refl _) (by decide) (fun i hi => match i, hi with | 0, _ => ⟨(Bs.nilL ((((((hsa.cons _).cons _).cons _).cons _).cons _).cons _) _), rfl⟩ | 1, _ => ⟨((((((hsa.cons _).cons _).cons _).cons _).cons _).cons _), rfl⟩ | 2, _ => ⟨(Bs.nilL ((((((hsa.cons _).cons _).cons _).cons _).cons _).cons _) _), rfl⟩ | 3, _ => ⟨((((((hsb.cons _).cons _).cons _).cons _).cons _).cons _), rfl⟩ | 4, _ => ⟨(Bs.nilL ((((((hsa.cons _).cons _).cons _).cons _).cons _).cons _) _), rfl⟩ | k + 5, hk => absurd hk (by omega)) (by simp [List.range_succ]) (by first | omega | (simp only [seg, List.length_append, List.length_drop, List.length_take, List.length_nil, List.length_cons, padL_length, dl_length]; omega)) (by first | omega | (simp only [seg, List.length_append, List.length_drop, List.length_take, List.length_nil, List.length_cons, padL_length, dl_length]; omega)) h45) (PIn.cons 4 rfl (PIn.cons 4 rfl (PIn.cons 4 rfl (PIn.cons 2 rfl PIn.nil)))) fun w46 h46 => ?_
      refine Plan.eqArrT FK3.arrI32 rfl rfl rfl (macL_congr (by simp)) ?_
      refine Plan.pickTb rfl rfl rfl ?_
      refine Plan.move_bool rfl rfl ?_
      refine Plan.move_slice rfl rfl ?_
      refine Plan.move_slice rfl rfl ?_
      refine Plan.loadA1 h46 4 rfl rfl rfl FK3.agg32 ?_
      refine Plan.callS rfl FK3.call37 rfl (extract_spec (iG := (iG + 6)) hG (i1 := (i1 + 6)) hH (Bs.seg (lo := 0) (hi := (k.length - r)) ((((((hsk.cons _).cons _).cons _).cons _).cons _).cons _) rfl (by omega)) (seg_length (by omega)) (Bs.ownL 5 rfl (len := ((([] : List Byte) ++ a) ++ b).length) (cap := cap8) ho8 (by omega) hF8) rfl (by first | omega | (simp only [seg, List.length_append, List.length_drop, List.length_take, List.length_nil, List.length_cons, padL_length, dl_length]; omega)) (by first | omega | (simp only [seg, List.length_append, List.length_drop, List.length_take, List.length_nil, List.length_cons, padL_length, dl_length]; omega)) h46) (PIn.cons 4 rfl (PIn.cons 4 rfl (PIn.cons 4 rfl (PIn.cons 4 rfl (PIn.cons 2 rfl PIn.nil))))) fun w47 h47 => ?_
      refine Plan.eqArrT FK3.arrI32 rfl rfl rfl (fun _ _ => rfl) ?_
      refine Plan.pickTb rfl rfl rfl ?_
      refine Plan.assign_bool rfl rfl ?_
      refine Plan.nil ?_
      refine hK11 _ _ ?_; clear hK11
      refine W.ret (finR_ret ?_)
      refine RetOk.mk (.tmp_bool rfl .nil) ?_
      exact ⟨rfl, h47.tl.tl.tl.tl.tl.tl⟩
  ·
    intro hc48
    refine Plan.nil ?_
    refine hK6 _ _ ?_; clear hK6
    refine W.condF rfl ?_
    refine W.skip ?_
    refine hK5 _ _ ?_; clear hK5
    refine W.seq_k fun K12 hK12 => ?_
    refine W.regionT [(0, true), (1, false), (2, true), (3, false), (4, true)] (by kernel_rfl) ?_
    refine Plan.move_slice rfl rfl ?_
    have h49 := h4.ownNil
    refine Plan.appendL (X := ([] : List Byte)) (Y := a) h49 0 FK3.el22 FK3.sl22 rfl rfl rfl rfl OwnSl.nil (by omega) rfl (fun q hq => absurd hq (Nat.not_lt_zero q)) (hsa.cons _) rfl (by first | omega | (simp only [seg, List.length_append, List.length_drop, List.length_take, List.length_nil, List.length_cons, padL_length, dl_length]; omega)) (fun _ => EffO.keep PIn.nil) fun a50 pb50 cap50 F50 w50 ho50 hc50 hF50 h50 => ?_
    simp only [List.set_cons_zero, List.set_cons_succ] at h50
    refine Plan.move_slice rfl rfl ?_
    refine Plan.appendL (X := (([] : List Byte) ++ a)) (Y := b) h50 0 FK3.el22 FK3.sl22 rfl rfl rfl rfl ho50 (by omega) rfl hF50 (hsb.cons _) rfl (by first | omega | (simp only [seg, List.length_append, List.length_drop, List.length_take, List.length_nil, List.length_cons, padL_length, dl_length]; omega)) (fun _ => EffO.keep PIn.nil) fun a51 pb51 cap51 F51 w51 ho51 hc51 hF51 h51 => ?_
    simp only [List.set_cons_zero, List.set_cons_succ] at h51
    refine Plan.assign_slice rfl rfl ?_
    refine Plan.nil ?_
    refine hK12 _ _ ?_; clear hK12
    refine W.seq_k fun K13 hK13 => ?_
    refine W.regionT [(0, true), (1, false), (2, true), (3, false), (4, false), (5, false), (6, false)] (by kernel_rfl) ?_
    refine Plan.move_slice rfl rfl ?_
    refine Plan.callE rfl FK3.call35 rfl (turned_spec (x := 54#8) (iG := (iG + 1)) hG (i1 := (i1 + 1)) hH (hsk.cons _) rfl (by first | omega | (simp only [seg, List.length_append, List.length_drop, List.length_take, List.length_nil, List.length_cons, padL_length, dl_length]; omega)) h51) (fun b => PIn.nil) fun b52 w52 h52 hb52 => ?_
    refine Plan.move_slice rfl rfl ?_
    refine Plan.buildSlice h52 (ps := [(2, fun i => .slice ((fun i => ([(some ⟨b52, 0, none⟩), a51] : List (Option Addr)).getD i none) i) ((fun i => [64, ((([] : List Byte) ++ a) ++ b).length].getD i 0) i) ((fun i => [64, cap51].getD i 0) i))]) FK3.slu75 FK3.sz22 FK3.zv22 (by decide) (by decide) rfl rfl rfl (EffO.keep PIn.nil) fun b53 w53 hb53 h53 => ?_
    simp only [rngs, List.cons_append, List.nil_append] at h53
    refine Plan.callS rfl FK3.call21 rfl (sumall_z (Z := (padL K256 H256 k 54#8) ++ ((([] : List Byte) ++ a) ++ b)) (iG := (iG + 3)) hG (i1 := (i1 + 3)) hH (iP := 0) (pa := fun i => ([(some ⟨b52, 0, none⟩), a51] : List (Option Addr)).getD i none) (pl := fun i => [64, ((([] : List Byte) ++ a) ++ b).length].getD i 0) (pc := fun i => [64, cap51].getD i 0) (X := fun i => ([(padL K256 H256 k 54#8), ((([] : List Byte) ++ a) ++ b)] : List (List Byte)).getD i []) h53 rfl (fun _ => ⟨_, rfl, rfl⟩) (Nat.le_refl _) (by decide) (fun i hi => match i, hi with | 0, _ => ⟨(Bs.of 1 rfl (len := 64) (cc := 64) (by omega) (by omega)), (padL_length _ _ _ _)⟩ | 1, _ => ⟨(Bs.ownL 2 rfl (len := ((([] : List Byte) ++ a) ++ b).length) (cap := cap51) ho51 (by omega) hF51), rfl⟩ | k + 2, hk => absurd hk (by omega)) (by simp [List.range_succ]) (by first | omega | (simp only [seg, List.length_append, List.length_drop, List.length_take, List.length_nil, List.length_cons, padL_length, dl_length]; omega))) PIn.nil fun w54 h54 => ?_
    refine Plan.alloc h54 rfl FK3.z32 PIn.nil fun b55 w55 hb55 h55 => ?_
    simp only [rngs, Nat.zero_add, Nat.reduceAdd, List.cons_append, List.nil_append] at h55
    refine Plan.storeA h55 0 rfl rfl rfl rfl (fun _ _ => rfl) FK3.sz32 rfl fun w56 h56 => ?_
    simp only [List.set_cons_zero, List.set_cons_succ] at h56
    refine Plan.nil ?_
    refine hK13 _ _ ?_; clear hK13
    refine W.seq_k fun K14 hK14 => ?_
    have h57 := St.pickT (C := [_, _, _, _]) h56 [3, 0] (by decide)
    simp only [pick, List.filterMap_cons, List.filterMap_nil, List.getElem?_cons_zero, List.getElem?_cons_succ, List.cons_append, List.nil_append] at h57
    refine W.cut (fun e w => ∃ bw : Nat, EnvHas e [(0, .slice ak k.length ck), (1, .slice aa a.length ca), (2, .slice ab b.length cb), (9, .slice a51 ((([] : List Byte) ++ a) ++ b).length cap51), (11, .pointer (some ⟨bw, 0, none⟩))] ∧ St B w0 (⟨some bw, 0, 32, fun q => VU .u8 (macL K256 H256 k ((([] : List Byte) ++ a) ++ b) q), true⟩ :: ⟨pb51, 0, cap51, fun q => VU .u8 (F51 q), true⟩ :: L) w) ?_ ?_
    ·
      refine W.regionF FK3.mixed (.fork [(0, true), (2, true)] (.fork [(1, false)] (.fork [(3, false)] (.line [(4, false), (5, false), (6, false)]) (.line [(5, false), (4, false), (6, false)])) (.line [(5, false), (3, false), (4, false), (6, false)])) (.line [(5, false), (1, false), (3, false), (4, false), (6, false)])) (by kernel_rfl) (PlanT.toFork ?_)
      have h58 := h57.drew
      refine Plan.move_slice rfl rfl ?_
      refine Plan.slArr FK3.arr32 rfl rfl rfl rfl (by omega) ?_
      refine Plan.forked ?_ ?_
      ·
        refine PlanT.toFork ?_
        refine Plan.callE rfl FK3.call35 rfl (turned_spec (x := 92#8) (iG := (iG + 2)) hG (i1 := (i1 + 2)) hH ((hsk.cons _).cons _) rfl (by first | omega | (simp only [seg, List.length_append, List.length_drop, List.length_take, List.length_nil, List.length_cons, padL_length, dl_length]; omega)) h58) (fun b => PIn.nil) fun b59 w59 h59 hb59 => ?_
        refine Plan.forked ?_ ?_
        ·
          refine PlanT.toFork ?_
          refine Plan.buildSlice h59 (ps := [(2, fun i => .slice ((fun i => ([(some ⟨b59, 0, none⟩), (some ⟨b55, 0 + 0 * 1, none⟩)] : List (Option Addr)).getD i none) i) ((fun i => [64, (32 - 0)].getD i 0) i) ((fun i => [64, (32 - 0)].getD i 0) i))]) FK3.slu75 FK3.sz22 FK3.zv22 (by decide) (by decide) rfl rfl rfl (EffO.keep PIn.nil) fun b60 w60 hb60 h60 => ?_
          simp only [rngs, List.cons_append, List.nil_append] at h60
          refine Plan.forked ?_ ?_
          ·
            refine PlanT.toLine ?_
            refine Plan.callS rfl FK3.call21 rfl (sumall_z (Z := (padL K256 H256 k 92#8) ++ (dl 32 (shaL K256 H256 ((padL K256 H256 k 54#8) ++ ((([] : List Byte) ++ a) ++ b))))) (iG := (iG + 4)) hG (i1 := (i1 + 4)) hH (iP := 0) (pa := fun i => ([(some ⟨b59, 0, none⟩), (some ⟨b55, 0 + 0 * 1, none⟩)] : List (Option Addr)).getD i none) (pl := fun i => [64, (32 - 0)].getD i 0) (pc := fun i => [64, (32 - 0)].getD i 0) (X := fun i => ([(padL K256 H256 k 92#8), (dl 32 (shaL K256 H256 ((padL K256 H256 k 54#8) ++ ((([] : List Byte) ++ a) ++ b))))] : List (List Byte)).getD i []) h60 rfl (fun _ => ⟨_, rfl, rfl⟩) (Nat.le_refl _) (by decide) (fun i hi => match i, hi with | 0, _ => ⟨(Bs.of 1 rfl (len := 64) (cc := 64) (by omega) (by omega)), (padL_length _ _ _ _)⟩ | 1, _ => ⟨(Bs.dl 3 rfl), (dl_length _ _)⟩ | k + 2, hk => absurd hk (by omega)) (by simp [List.range_succ]) (by first | omega | (simp only [seg, List.length_append, List.length_drop, List.length_take, List.length_nil, List.length_cons, padL_length, dl_length]; omega))) PIn.nil fun w61 h61 => ?_
            refine Plan.alloc h61 rfl FK3.z32 PIn.nil fun b62 w62 hb62 h62 => ?_
            simp only [rngs, Nat.zero_add, Nat.reduceAdd, List.cons_append, List.nil_append] at h62
            refine Plan.storeA h62 0 rfl rfl rfl rfl (fun _ _ => rfl) FK3.sz32 rfl fun w63 h63 => ?_
            simp only [List.set_cons_zero, List.set_cons_succ] at h63
            refine Plan.nil ?_
            refine thenR_norm ?_
            have h64 := St.pickT (C := [_, _, _, _, _]) h63 [0, 3] (by decide)
            simp only [pick, List.filterMap_cons, List.filterMap_nil, List.getElem?_cons_zero, List.getElem?_cons_succ, List.cons_append, List.nil_append] at h64
            exact ⟨b62, (EnvHas.cons rfl (EnvHas.cons rfl (EnvHas.cons rfl (EnvHas.cons rfl (EnvHas.cons rfl EnvHas.nil))))), h64⟩
          ·
            refine PlanT.toLine ?_
            refine Plan.alloc h60 rfl FK3.z32 PIn.nil fun b65 w65 hb65 h65 => ?_
            simp only [rngs, Nat.zero_add, Nat.reduceAdd, List.cons_append, List.nil_append] at h65
            refine Plan.callS rfl FK3.call21 rfl (sumall_z (Z := (padL K256 H256 k 92#8) ++ (dl 32 (shaL K256 H256 ((padL K256 H256 k 54#8) ++ ((([] : List Byte) ++ a) ++ b))))) (iG := (iG + 5)) hG (i1 := (i1 + 5)) hH (iP := 1) (pa := fun i => ([(some ⟨b59, 0, none⟩), (some ⟨b55, 0 + 0 * 1, none⟩)] : List (Option Addr)).getD i none) (pl := fun i => [64, (32 - 0)].getD i 0) (pc := fun i => [64, (32 - 0)].getD i 0) (X := fun i => ([(padL K256 H256 k 92#8), (dl 32 (shaL K256 H256 ((padL K256 H256 k 54#8) ++ ((([] : List Byte) ++ a) ++ b))))] : List (List Byte)).getD i []) h65 rfl (fun _ => ⟨_, rfl, rfl⟩) (Nat.le_refl _) (by decide) (fun i hi => match i, hi with | 0, _ => ⟨(Bs.of 2 rfl (len := 64) (cc := 64) (by omega) (by omega)), (padL_length _ _ _ _)⟩ | 1, _ => ⟨(Bs.dl 4 rfl), (dl_length _ _)⟩ | k + 2, hk => absurd hk (by omega)) (by simp [List.range_succ]) (by first | omega | (simp only [seg, List.length_append, List.length_drop, List.length_take, List.length_nil, List.length_cons, padL_length, dl_length]; omega))) PIn.nil fun w66 h66 => ?_
            refine Plan.storeA h66 0 rfl rfl rfl rfl (fun _ _ => rfl) FK3.sz32 rfl fun w67 h67 => ?_
            simp only [List.set_cons_zero, List.set_cons_succ] at h67
            refine Plan.nil ?_
            refine thenR_norm ?_
            have h68 := St.pickT (C := [_, _, _, _, _]) h67 [0, 3] (by decide)
            simp only [pick, List.filterMap_cons, List.filterMap_nil, List.getElem?_cons_zero, List.getElem?_cons_succ, List.cons_append, List.nil_append] at h68
            exact ⟨b65, (EnvHas.cons rfl (EnvHas.cons rfl (EnvHas.cons rfl (EnvHas.cons rfl (EnvHas.cons rfl EnvHas.nil))))), h68⟩
        ·
          refine PlanT.toLine ?_
          refine Plan.alloc h59 rfl FK3.z32 PIn.nil fun b69 w69 hb69 h69 => ?_
          simp only [rngs, Nat.zero_add, Nat.reduceAdd, List.cons_append, List.nil_append] at h69
          refine Plan.buildSlice h69 (ps := [(2, fun i => .slice ((fun i => ([(some ⟨b59, 0, none⟩), (some ⟨b55, 0 + 0 * 1, none⟩)] : List (Option Addr)).getD i none) i) ((fun i => [64, (32 - 0)].getD i 0) i) ((fun i => [64, (32 - 0)].getD i 0) i))]) FK3.slu75 FK3.sz22 FK3.zv22 (by decide) (by decide) rfl rfl rfl (EffO.keep PIn.nil) fun b70 w70 hb70 h70 => ?_
          simp only [rngs, List.cons_append, List.nil_append] at h70
          refine Plan.callS rfl FK3.call21 rfl (sumall_z (Z := (padL K256 H256 k 92#8) ++ (dl 32 (shaL K256 H256 ((padL K256 H256 k 54#8) ++ ((([] : List Byte) ++ a) ++ b))))) (iG := (iG + 5)) hG (i1 := (i1 + 5)) hH (iP := 0) (pa := fun i => ([(some ⟨b59, 0, none⟩), (some ⟨b55, 0 + 0 * 1, none⟩)] : List (Option Addr)).getD i none) (pl := fun i => [64, (32 - 0)].getD i 0) (pc := fun i => [64, (32 - 0)].getD i 0) (X := fun i => ([(padL K256 H256 k 92#8), (dl 32 (shaL K256 H256 ((padL K256 H256 k 54#8) ++ ((([] : List Byte) ++ a) ++ b))))] : List (List Byte)).getD i []) h70 rfl (fun _ => ⟨_, rfl, rfl⟩) (Nat.le_refl _) (by decide) (fun i hi => match i, hi with | 0, _ => ⟨(Bs.of 2 rfl (len := 64) (cc := 64) (by omega) (by omega)), (padL_length _ _ _ _)⟩ | 1, _ => ⟨(Bs.dl 4 rfl), (dl_length _ _)⟩ | k + 2, hk => absurd hk (by omega)) (by simp [List.range_succ]) (by first | omega | (simp only [seg, List.length_append, List.length_drop, List.length_take, List.length_nil, List.length_cons, padL_length, dl_length]; omega))) PIn.nil fun w71 h71 => ?_
          refine Plan.storeA h71 1 rfl rfl rfl rfl (fun _ _ => rfl) FK3.sz32 rfl fun w72 h72 => ?_
          simp only [List.set_cons_zero, List.set_cons_succ] at h72
          refine Plan.nil ?_
          refine thenR_norm ?_
          have h73 := St.pickT (C := [_, _, _, _, _]) h72 [1, 3] (by decide)
          simp only [pick, List.filterMap_cons, List.filterMap_nil, List.getElem?_cons_zero, List.getElem?_cons_succ, List.cons_append, List.nil_append] at h73
          exact ⟨b69, (EnvHas.cons rfl (EnvHas.cons rfl (EnvHas.cons rfl (EnvHas.cons rfl (EnvHas.cons rfl EnvHas.nil))))), h73⟩
      ·
        refine PlanT.toLine ?_
        refine Plan.alloc h58 rfl FK3.z32 PIn.nil fun b74 w74 hb74 h74 => ?_
        simp only [rngs, Nat.zero_add, Nat.reduceAdd, List.cons_append, List.nil_append] at h74
        refine Plan.callE rfl FK3.call35 rfl (turned_spec (x := 92#8) (iG := (iG + 3)) hG (i1 := (i1 + 3)) hH (((hsk.cons _).cons _).cons _) rfl (by first | omega | (simp only [seg, List.length_append, List.length_drop, List.length_take, List.length_nil, List.length_cons, padL_length, dl_length]; omega)) h74) (fun b => PIn.nil) fun b75 w75 h75 hb75 => ?_
        refine Plan.buildSlice h75 (ps := [(2, fun i => .slice ((fun i => ([(some ⟨b75, 0, none⟩), (some ⟨b55, 0 + 0 * 1, none⟩)] : List (Option Addr)).getD i none) i) ((fun i => [64, (32 - 0)].getD i 0) i) ((fun i => [64, (32 - 0)].getD i 0) i))]) FK3.slu75 FK3.sz22 FK3.zv22 (by decide) (by decide) rfl rfl rfl (EffO.keep PIn.nil) fun b76 w76 hb76 h76 => ?_
        simp only [rngs, List.cons_append, List.nil_append] at h76
        refine Plan.callS rfl FK3.call21 rfl (sumall_z (Z := (padL K256 H256 k 92#8) ++ (dl 32 (shaL K256 H256 ((padL K256 H256 k 54#8) ++ ((([] : List Byte) ++ a) ++ b))))) (iG := (iG + 5)) hG (i1 := (i1 + 5)) hH (iP := 0) (pa := fun i => ([(some ⟨b75, 0, none⟩), (some ⟨b55, 0 + 0 * 1, none⟩)] : List (Option Addr)).getD i none) (pl := fun i => [64, (32 - 0)].getD i 0) (pc := fun i => [64, (32 - 0)].getD i 0) (X := fun i => ([(padL K256 H256 k 92#8), (dl 32 (shaL K256 H256 ((padL K256 H256 k 54#8) ++ ((([] : List Byte) ++ a) ++ b))))] : List (List Byte)).getD i []) h76 rfl (fun _ => ⟨_, rfl, rfl⟩) (Nat.le_refl _) (by decide) (fun i hi => match i, hi with | 0, _ => ⟨(Bs.of 1 rfl (len := 64) (cc := 64) (by omega) (by omega)), (padL_length _ _ _ _)⟩ | 1, _ => ⟨(Bs.dl 4 rfl), (dl_length _ _)⟩ | k + 2, hk => absurd hk (by omega)) (by simp [List.range_succ]) (by first | omega | (simp only [seg, List.length_append, List.length_drop, List.length_take, List.length_nil, List.length_cons, padL_length, dl_length]; omega))) PIn.nil fun w77 h77 => ?_
        refine Plan.storeA h77 2 rfl rfl rfl rfl (fun _ _ => rfl) FK3.sz32 rfl fun w78 h78 => ?_
        simp only [List.set_cons_zero, List.set_cons_succ] at h78
        refine Plan.nil ?_
        refine thenR_norm ?_
        have h79 := St.pickT (C := [_, _, _, _, _]) h78 [2, 3] (by decide)
        simp only [pick, List.filterMap_cons, List.filterMap_nil, List.getElem?_cons_zero, List.getElem?_cons_succ, List.cons_append, List.nil_append] at h79
        exact ⟨b74, (EnvHas.cons rfl (EnvHas.cons rfl (EnvHas.cons rfl (EnvHas.cons rfl (EnvHas.cons rfl EnvHas.nil))))), h79⟩
    · -- behind the loop
      rintro ev80 wl80 ⟨bw, he80, h80⟩
      obtain ⟨ev80, rfl⟩ := he80.open
      refine hK14 _ _ ?_; clear hK14
      refine W.seq_k fun K15 hK15 => ?_
      refine W.regionT [(0, true), (1, true), (2, false), (3, false), (4, false), (5, false)] (by kernel_rfl) ?_
      refine Plan.move_slice rfl rfl ?_
      refine Plan.move_slice rfl rfl ?_
      refine Plan.buildSlice h80 (ps := [(1, fun i => .slice ((fun i => ([a51] : List (Option Addr)).getD i none) i) ((fun i => [((([] : List Byte) ++ a) ++ b).length].getD i 0) i) ((fun i => [cap51].getD i 0) i))]) FK3.slu75 FK3.sz22 FK3.zv22 (by decide) (by decide) rfl rfl rfl (EffO.keep PIn.nil) fun b81 w81 hb81 h81 => ?_
      simp only [rngs, List.cons_append, List.nil_append] at h81
      refine Plan.callS rfl FK3.call36 rfl (mac_spec (Z := ((([] : List Byte) ++ a) ++ b)) (iG := (iG + 3)) hG (i1 := (i1 + 3)) hH (((hsk.cons _).cons _).cons _) rfl (iP := 0) (pa := fun i => ([a51] : List (Option Addr)).getD i none) (pl := fun i => [((([] : List Byte) ++ a) ++ b).length].getD i 0) (pc := fun i => [cap51].getD i 0) (XP := fun i => ([((([] : List Byte) ++ a) ++ b)] : List (List Byte)).getD i []) rfl (fun _ => ⟨_, rfl, rfl⟩) (Nat.le_refl _) (by decide) (fun i hi => match i, hi with | 0, _ => ⟨(Bs.ownL 2 rfl (len := ((([] : List Byte) ++ a) ++ b).length) (cap := cap51) ho51 (by omega) hF51), rfl⟩ | k + 1, hk => absurd hk (by omega)) (by simp [List.range_succ]) (by first | omega | (simp only [seg, List.length_append, List.length_drop, List.length_take, List.length_nil, List.length_cons, padL_length, dl_length]; omega)) (by first | omega | (simp only [seg, List.length_append, List.length_drop, List.length_take, List.length_nil, List.length_cons, padL_length, dl_length]; omega)) h81) PIn.nil fun w82 h82 => ?_
      refine Plan.alloc h82 rfl FK3.z32 PIn.nil fun b83 w83 hb83 h83 => ?_
      simp only [rngs, Nat.zero_add, Nat.reduceAdd, List.cons_append, List.nil_append] at h83
      refine Plan.storeA h83 0 rfl rfl rfl rfl (fun _ _ => rfl) FK3.sz32 rfl fun w84 h84 => ?_
      simp only [List.set_cons_zero, List.set_cons_succ] at h84
      refine Plan.nil ?_
      refine hK15 _ _ ?_; clear hK15
      refine W.seq_k fun K16 hK16 => ?_
      refine W.regionD FK3.mixed [(0, true), (1, true), (2, true), (3, true), (4, true), (5, true), (6, true), (9, true), (7, false), (8, false), (10, true), (11, true), (12, true), (13, true), (14, true), (15, true), (18, true), (16, false), (17, false), (19, true), (20, true), (21, true), (22, true), (23, true), (25, true), (24, false), (26, true), (27, true), (28, true)] (by kernel_rfl) ?_
      have h85 := h84.drew
      refine Plan.loadA1 h85 0 rfl rfl rfl FK3.agg32 ?_
      refine Plan.loadA1 h85 2 rfl rfl rfl FK3.agg32 ?_
      refine Plan.eqArrT FK3.arrI32 rfl rfl rfl (fun _ _ => rfl) ?_
      refine Plan.move_bool rfl rfl ?_
      refine Plan.move_slice rfl rfl ?_
      refine Plan.move_slice rfl rfl ?_
      refine Plan.move_slice rfl rfl ?_
      refine Plan.loadA1 h85 2 rfl rfl rfl FK3.agg32 ?_
      refine Plan.buildSlice h85 (ps := [(2, fun i => .slice ((fun i => ([aa, ab] : List (Option Addr)).getD i none) i) ((fun i => [a.length, b.length].getD i 0) i) ((fun i => [ca, cb].getD i 0) i))]) FK3.slu75 FK3.sz22 FK3.zv22 (by decide) (by decide) rfl rfl rfl (EffO.keep (PIn.cons 2 rfl (PIn.cons 2 rfl (PIn.cons 0 rfl PIn.nil)))) fun b86 w86 hb86 h86 => ?_
      simp only [rngs, List.cons_append, List.nil_append] at h86
      refine Plan.callS rfl FK3.call36 rfl (mac_spec (Z := a ++ b) (iG := (iG + 5)) hG (i1 := (i1 + 5)) hH (((((hsk.cons _).cons _).cons _).cons _).cons _) rfl (iP := 0) (pa := fun i => ([aa, ab] : List (Option Addr)).getD i none) (pl := fun i => [a.length, b.length].getD i 0) (pc := fun i => [ca, cb].getD i 0) (XP := fun i => ([a, b] : List (List Byte)).getD i []) rfl (fun _ => ⟨_, rfl, rfl⟩) (Nat.le_refl _) (by decide) (fun i hi => match i, hi with | 0, _ => ⟨(((((hsa.cons _).cons _).cons _).cons _).cons _), rfl⟩ | 1, _ => ⟨(((((hsb.cons _).cons _).cons _).cons _).cons _), rfl⟩ | k + 2, hk => absurd hk (by omega)) (by simp [List.range_succ]) (by first | omega | (simp only [seg, List.length_append, List.length_drop, List.length_take, List.length_nil, List.length_cons, padL_length, dl_length]; omega)) (by first | omega | (simp only [seg, List.length_append, List.length_drop, List.length_take, List.length_nil, List.length_cons, padL_length, dl_length]; omega)) h86) (PIn.cons 3 rfl (PIn.cons 3 rfl (PIn.cons 1 rfl PIn.nil))) fun w87 h87 => ?_
      refine Plan.eqArrT FK3.arrI32 rfl rfl rfl (macL_congr (by simp)) ?_
      refine Plan.pickTb rfl rfl rfl ?_
      refine Plan.move_bool rfl rfl ?_
      refine Plan.move_slice rfl rfl ?_
      refine Plan.move_slice rfl rfl ?_
      refine Plan.move_slice rfl rfl ?_
      refine Plan.loadA1 h87 3 rfl rfl rfl FK3.agg32 ?_
      refine Plan.buildSlice h87 (ps := [(5, fun i => .slice ((fun i => ([none, aa, none, ab, none] : List (Option Addr)).getD i none) i) ((fun i => [0, a.length, 0, b.length, 0].getD i 0) i) ((fun i => [0, ca, 0, cb, 0].getD i 0) i))]) FK3.slu75 FK3.sz22 FK3.zv22 (by decide) (by decide) rfl rfl rfl (EffO.keep (PIn.cons 3 rfl (PIn.cons 3 rfl (PIn.cons 3 rfl (PIn.cons 1 rfl PIn.nil))))) fun b88 w88 hb88 h88 => ?_
      simp only [rngs, List.cons_append, List.nil_append] at h88
      refine Plan.callS rfl FK3.call36 rfl (mac_spec (Z := ([] : List Byte) ++ a ++ ([] : List Byte) ++ b ++ ([] : List Byte)) (iG := (iG + 6)) hG (i1 := (i1 + 6)) hH ((((((hsk.cons _).cons _).cons _).cons _).cons _).cons _) rfl (iP := 0) (pa := fun i => ([none, aa, none, ab, none] : List (Option Addr)).getD i none) (pl := fun i => [0, a.length, 0, b.length, 0].getD i 0) (pc := fun i => [0, ca, 0, cb, 0].getD i 0) (XP := fun i => ([([] : List Byte), a, ([] : List Byte), b, ([] : List Byte)] : List (List Byte)).getD i []) rfl (fun _ => ⟨_, rfl, rfl⟩) (Nat.le_refl _) (by decide) (fun i hi => match i, hi with | 0, _ => ⟨(Bs.nilL ((((((hsa.cons _).cons _).cons _).cons _).cons _).cons _) _), rfl⟩ | 1, _ => ⟨((((((hsa.cons _).cons _).cons _).cons _).cons _).cons _), rfl⟩ | 2, _ => ⟨(Bs.nilL ((((((hsa.cons _).cons _).cons _).cons _).cons _).cons _) _), rfl⟩ | 3, _ => ⟨((((((hsb.cons _).cons _).cons _).cons _).cons _).cons _), rfl⟩ | 4, _ => ⟨(Bs.nilL ((((((hsa.cons _).cons _).cons _).cons _).cons _).cons _) _), rfl⟩ | k + 5, hk => absurd hk (by omega)) (by simp [List.range_succ]) (by first | omega | (simp only [seg, List.length_append, List.length_drop, List.length_take, List.length_nil, List.length_cons, padL_length, dl_length]; omega)) (by first | omega | (simp only [seg, List.length_append, List.length_drop, List.length_take, List.length_nil, List.length_cons, padL_length, dl_length]; omega)) h88) (PIn.cons 4 rfl (PIn.cons 4 rfl (PIn.cons 4 rfl (PIn.cons 2 rfl PIn.nil)))) fun w89 h89 => ?_
      refine Plan.eqArrT FK3.arrI32 rfl rfl rfl (macL_congr (by simp)) ?_
      refine Plan.pickTb rfl rfl rfl ?_
      refine Plan.move_bool rfl rfl ?_
      refine Plan.move_slice rfl rfl ?_
      refine Plan.move_slice rfl rfl ?_
      refine Plan.loadA1 h89 4 rfl rfl rfl FK3.agg32 ?_
      refine Plan.callS rfl FK3.call37 rfl (extract_spec (iG := (iG + 6)) hG (i1 := (i1 + 6)) hH ((((((hsk.cons _).cons _).cons _).cons _).cons _).cons _) rfl (Bs.ownL 5 rfl (len := ((([] : List Byte) ++ a) ++ b).length) (cap := cap51) ho51 (by omega) hF51) rfl (by first | omega | (simp only [seg, List.length_append, List.length_drop, List.length_take, List.length_nil, List.length_cons, padL_length, dl_length]; omega)) (by first | omega | (simp only [seg, List.length_append, List.length_drop, List.length_take, List.length_nil, List.length_cons, padL_length, dl_length]; omega)) h89) (PIn.cons 4 rfl (PIn.cons 4 rfl (PIn.cons 4 rfl (PIn.cons 4 rfl (PIn.cons 2 rfl PIn.nil))))) fun w90 h90 => ?_
      refine Plan.eqArrT FK3.arrI32 rfl rfl rfl (fun _ _ => rfl) ?_
      refine Plan.pickTb rfl rfl rfl ?_
      refine Plan.assign_bool rfl rfl ?_
      refine Plan.nil ?_
      refine hK16 _ _ ?_; clear hK16
      refine W.ret (finR_ret ?_)
      refine RetOk.mk (.tmp_bool rfl .nil) ?_
      exact ⟨rfl, h90.tl.tl.tl.tl.tl.tl⟩

end Go.Proofs.YtjdgbahjpdopbaaDoor
