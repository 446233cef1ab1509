/-
  WALKS of the package's functions, printed by this session's own program (auto.py).
-/
import Derived.Test.YtjclppnbbpnfnaaDoorProg
import Derived.Test.YtjclppnbbpnfnaaDoorEb
import Derived.Test.YtjclppnbbpnfnaaDoorRLaw17
import Derived.Test.YtjclppnbbpnfnaaDoorEls
import Derived.Test.YtjclppnbbpnfnaaDoorWAgree
import Derived.Test.YtjclppnbbpnfnaaDoorWCurve
namespace Go.Proofs.YtjclppnbbpnfnaaDoor
set_option linter.unusedSimpArgs false
set_option linter.unusedVariables false
set_option linter.unusedSectionVars false
open Go Go.LW
theorem FLaw17.z25 : zeroIs Tryd.prog 25 [(32, fun _ => VU .u8 0#8), (32, fun _ => VU .u8 0#8)] := zeroIs_agg (by kernel_rfl)
theorem FLaw17.mixed : Tryd.prog.follows .mixedOrders = true := by kernel_rfl
theorem FLaw17.agg23 : aggT Tryd.prog 23 32 = true := by kernel_rfl
theorem FLaw17.z23 : zeroIs Tryd.prog 23 [(32, fun _ => VU .u8 0#8)] := zeroIs_agg (by kernel_rfl)
theorem FLaw17.sz23 : szT Tryd.prog 23 32 = true := by kernel_rfl
theorem FLaw17.call20 : callB Tryd.prog 20 = true := by kernel_rfl
theorem FLaw17.call21 : callB Tryd.prog 21 = true := by kernel_rfl
theorem FLaw17.pl25 : placesB Tryd.prog 25 [(0, 32), (32, 32)] = true := by kernel_rfl
theorem FLaw17.sz25 : szT Tryd.prog 25 64 = true := by kernel_rfl
theorem FLaw17.agg25 : aggT Tryd.prog 25 64 = true := by kernel_rfl
theorem FLaw17.z35 : zeroIs Tryd.prog 35 [(32, fun _ => VU .u8 0#8), (16, fun _ => VU .u8 0#8), (64, fun _ => VU .u8 0#8), (32, fun _ => VU .u8 0#8), (32, fun _ => VU .u8 0#8), (1, fun _ => VU .u32 0#32), (1, fun _ => .int .i64 0)] := zeroIs_agg (by kernel_rfl)
theorem FLaw17.agg28 : aggT Tryd.prog 28 65 = true := by kernel_rfl
theorem FLaw17.z30 : zeroIs Tryd.prog 30 [(16, fun _ => VU .u8 0#8)] := zeroIs_agg (by kernel_rfl)
theorem FLaw17.z31 : zeroIs Tryd.prog 31 [(64, fun _ => VU .u8 0#8)] := zeroIs_agg (by kernel_rfl)
theorem FLaw17.z33 : zeroIs Tryd.prog 33 [(32, fun _ => VU .u8 0#8), (32, fun _ => VU .u8 0#8), (1, fun _ => VU .u32 0#32)] := zeroIs_agg (by kernel_rfl)
theorem FLaw17.sz30 : szT Tryd.prog 30 16 = true := by kernel_rfl
theorem FLaw17.agg31 : aggT Tryd.prog 31 64 = true := by kernel_rfl
theorem FLaw17.agg30 : aggT Tryd.prog 30 16 = true := by kernel_rfl
theorem FLaw17.sz31 : szT Tryd.prog 31 64 = true := by kernel_rfl
theorem FLaw17.sz33 : szT Tryd.prog 33 65 = true := by kernel_rfl
theorem FLaw17.agg33 : aggT Tryd.prog 33 65 = true := by kernel_rfl
theorem FLaw17.call14 : callB Tryd.prog 14 = true := by kernel_rfl
theorem FLaw17.pl35 : placesB Tryd.prog 35 [(0, 32), (32, 16), (48, 64), (112, 65), (177, 1)] = true := by kernel_rfl
theorem FLaw17.sz35 : szT Tryd.prog 35 178 = true := by kernel_rfl
theorem FLaw17.agg35 : aggT Tryd.prog 35 178 = true := by kernel_rfl
theorem FLaw17.call22 : callB Tryd.prog 22 = true := by kernel_rfl

set_option maxRecDepth 8000 in
set_option maxHeartbeats 1000000 in
theorem lethelaw17_pair_ok {B : Nat} {w0 w : World} {L : List Rg} {iG0 : Nat} (hG0 : L[iG0]? = some ⟨some 0, 0, 5, fun q => VU .u64 (twice5 q), false⟩) {k1 : Nat → BitVec 8} {r : ((Nat → BitVec 8) × (Nat → BitVec 8))} (hR : lethelaw17_pair k1 r) (HST : St B w0 (L) w) :
    Calls Tryd.prog 11 #[AG [(32, fun q => VU .u8 (k1 q))]] w fun e w' => e = .returned (AG [(32, fun q => VU .u8 (r.1 q)), (32, fun q => VU .u8 (r.2 q))]) ∧ St B w0 (L) w' := by
  refine W.enter 8 Tryd.func11 rfl rfl rfl ?_
  unfold lethelaw17_pair at hR
  refine W.seq_k fun K2 hK2 => ?_
  refine W.regionT [(0, false), (1, false)] (by kernel_rfl) ?_
  refine Plan.boxA HST rfl rfl PIn.nil fun b3 w3 hb3 h3 => ?_
  simp only [rngs, Nat.zero_add, Nat.reduceAdd, List.cons_append, List.nil_append] at h3
  refine Plan.alloc h3 rfl FLaw17.z25 PIn.nil fun b4 w4 hb4 h4 => ?_
  simp only [rngs, Nat.zero_add, Nat.reduceAdd, List.cons_append, List.nil_append] at h4
  refine Plan.nil ?_
  refine hK2 _ _ ?_; clear hK2
  refine W.seq_k fun K5 hK5 => ?_
  refine W.regionD FLaw17.mixed [(0, true), (2, true), (1, false), (3, false), (4, true), (5, false)] (by kernel_rfl) ?_
  have h6 := h4.drew
  refine Plan.loadA1 h6 2 rfl rfl rfl FLaw17.agg23 ?_
  refine Plan.loadA1 h6 2 rfl rfl rfl FLaw17.agg23 ?_
  obtain ⟨x_8, hr7, hR⟩ := hR
  refine Plan.call (vs := [AG [(32, fun q => VU .u8 (k1 q))]]) rfl FLaw17.call20 rfl (curve_Clamp_ok  hr7 h6) ?_
  rintro _ w9 ⟨rfl, h9⟩
  refine ⟨_, rfl, .inl ⟨PIn.keep (PIn.cons 2 rfl (PIn.cons 2 rfl PIn.nil)) h9, ?_⟩⟩
  obtain ⟨x_11, hr10, hR⟩ := hR
  refine Plan.call (vs := [AG [(32, fun q => VU .u8 (k1 q))]]) rfl FLaw17.call21 rfl (curve_Public_ok (iG0 := iG0 + 3) hG0 hr10 h9) ?_
  rintro _ w12 ⟨rfl, h12⟩
  refine ⟨_, rfl, .inl ⟨PIn.keep (PIn.cons 2 rfl (PIn.cons 2 rfl PIn.nil)) h12, ?_⟩⟩
  refine Plan.buildP (ps := [(32, fun q => VU .u8 (x_8 q)), (32, fun q => VU .u8 (x_11 q))]) FLaw17.pl25 (by decide) FLaw17.z25 rfl rfl (.agg [] [(32, fun q => VU .u8 ((fun _ => 0#8) q))] [(32, fun q => VU .u8 ((fun _ => 0#8) q))] [(32, fun q => VU .u8 (x_8 q))] rfl rfl (.agg [(32, fun q => VU .u8 (x_8 q))] [(32, fun q => VU .u8 ((fun _ => 0#8) q))] [] [(32, fun q => VU .u8 (x_11 q))] rfl rfl .nil)) ?_
  refine Plan.storeP (ps := [(32, fun q => VU .u8 (x_8 q)), (32, fun q => VU .u8 (x_11 q))]) h12 rfl rfl rfl (.cons 0 rfl (.cons 1 rfl .nil)) ⟨fun _ _ => rfl, fun _ _ => rfl, trivial⟩ FLaw17.sz25 (EffO.wait rfl) fun w13 h13 => ?_
  simp only [List.cons_append, List.nil_append, List.set_cons_zero, List.set_cons_succ] at h13
  refine Plan.nil ?_
  refine hK5 _ _ ?_; clear hK5
  refine W.ret (finR_ret ?_)
  have h14 := St.pickT (C := [_, _, _]) h13 [] (by decide)
  simp only [pick, List.filterMap_cons, List.filterMap_nil, List.getElem?_cons_zero, List.getElem?_cons_succ, List.cons_append, List.nil_append] at h14
  subst r
  refine RetOk.mk (.agg h13 rfl (.cons 0 rfl (.cons 1 rfl .nil)) FLaw17.agg25 .nil) ?_
  exact ⟨rfl, h14⟩


set_option maxRecDepth 8000 in
set_option maxHeartbeats 1000000 in
theorem lethelaw17_start_ok {B : Nat} {w0 w : World} {L : List Rg} {iG0 : Nat} (hG0 : L[iG0]? = some ⟨some 0, 0, 5, fun q => VU .u64 (twice5 q), false⟩) {iG1 : Nat} (hG1 : L[iG1]? = some ⟨some 1, 0, 8, fun q => VU .u32 (H256 q), false⟩) {iG3 : Nat} (hG3 : L[iG3]? = some ⟨some 3, 0, 64, fun q => VU .u32 (K256 q), false⟩) {pPriv1 : Nat → BitVec 8} {pPub2 : Nat → BitVec 8} {qPriv3 : Nat → BitVec 8} {qPub4 : Nat → BitVec 8} {oIdentity5 : Nat → BitVec 8} {oPrekey6 : BitVec 32} {oKey7 : Nat → BitVec 8} {r : ((Nat → BitVec 8) × (Nat → BitVec 8) × (Nat → BitVec 8) × (Nat → BitVec 8) × (Nat → BitVec 8) × (BitVec 32) × Nat)} (hR : lethelaw17_start pPriv1 pPub2 qPriv3 qPub4 oIdentity5 oPrekey6 oKey7 r) (HST : St B w0 (L) w) :
    Calls Tryd.prog 7 #[AG [(32, fun q => VU .u8 (pPriv1 q)), (32, fun q => VU .u8 (pPub2 q))], AG [(32, fun q => VU .u8 (qPriv3 q)), (32, fun q => VU .u8 (qPub4 q))], AG [(32, fun q => VU .u8 (oIdentity5 q)), (1, fun _ => VU .u32 oPrekey6), (32, fun q => VU .u8 (oKey7 q))]] w fun e w' => e = .returned (AG [(32, fun q => VU .u8 (r.1 q)), (16, fun q => VU .u8 (r.2.1 q)), (64, fun q => VU .u8 (r.2.2.1 q)), (32, fun q => VU .u8 (r.2.2.2.1 q)), (32, fun q => VU .u8 (r.2.2.2.2.1 q)), (1, fun _ => VU .u32 r.2.2.2.2.2.1), (1, fun _ => VN r.2.2.2.2.2.2)]) ∧ St B w0 (L) w' := by
  refine W.enter 28 Tryd.func7 rfl rfl rfl ?_
  unfold lethelaw17_start at hR
  refine W.seq_k fun K8 hK8 => ?_
  refine W.regionT [(0, false), (1, false), (2, false), (3, false)] (by kernel_rfl) ?_
  refine Plan.boxA HST rfl rfl PIn.nil fun b9 w9 hb9 h9 => ?_
  simp only [rngs, Nat.zero_add, Nat.reduceAdd, List.cons_append, List.nil_append] at h9
  refine Plan.boxA h9 rfl rfl PIn.nil fun b10 w10 hb10 h10 => ?_
  simp only [rngs, Nat.zero_add, Nat.reduceAdd, List.cons_append, List.nil_append] at h10
  refine Plan.boxA h10 rfl rfl PIn.nil fun b11 w11 hb11 h11 => ?_
  simp only [rngs, Nat.zero_add, Nat.reduceAdd, List.cons_append, List.nil_append] at h11
  refine Plan.alloc h11 rfl FLaw17.z35 PIn.nil fun b12 w12 hb12 h12 => ?_
  simp only [rngs, Nat.zero_add, Nat.reduceAdd, List.cons_append, List.nil_append] at h12
  refine Plan.nil ?_
  refine hK8 _ _ ?_; clear hK8
  refine W.seq_k fun K13 hK13 => ?_
  refine W.regionT [(0, true), (1, true), (2, true), (3, false), (4, true), (5, true), (6, true), (7, true), (8, true), (9, true), (10, false), (11, false), (12, false), (13, false), (14, false), (15, false), (16, false), (17, false), (18, true)] (by kernel_rfl) ?_
  refine Plan.loadA h12 rfl rfl (.cons 12 rfl (.cons 13 rfl .nil)) FLaw17.agg25 ?_
  refine Plan.loadA h12 rfl rfl (.cons 10 rfl (.cons 11 rfl .nil)) FLaw17.agg25 ?_
  refine Plan.loadA h12 rfl rfl (.cons 7 rfl (.cons 8 rfl (.cons 9 rfl .nil))) FLaw17.agg28 ?_
  obtain ⟨x_15, x_16, x_17, x_18, x_19, x_20, x_21, hr14, hR⟩ := hR
  refine Plan.call (vs := [AG [(32, fun q => VU .u8 (pPriv1 q)), (32, fun q => VU .u8 (pPub2 q))], AG [(32, fun q => VU .u8 (qPriv3 q)), (32, fun q => VU .u8 (qPub4 q))], AG [(32, fun q => VU .u8 (oIdentity5 q)), (1, fun _ => VU .u32 oPrekey6), (32, fun q => VU .u8 (oKey7 q))]]) rfl FLaw17.call14 rfl (agree_Start_ok (iG0 := iG0 + 14) hG0 (iG1 := iG1 + 14) hG1 (iG3 := iG3 + 14) hG3 hr14 h12) ?_
  rintro _ w22 ⟨rfl, h22⟩
  refine ⟨_, rfl, .inr ⟨rfl, ?_⟩⟩
  refine Plan.move_tuple rfl rfl ?_
  refine Plan.extract_agg rfl rfl rfl ?_
  refine Plan.extract_agg rfl rfl rfl ?_
  refine Plan.extract_agg rfl rfl rfl ?_
  refine Plan.extract_agg rfl rfl rfl ?_
  refine Plan.extract_int rfl rfl rfl ?_
  refine Plan.alloc h22 rfl FLaw17.z23 PIn.nil fun b23 w23 hb23 h23 => ?_
  simp only [rngs, Nat.zero_add, Nat.reduceAdd, List.cons_append, List.nil_append] at h23
  refine Plan.alloc h23 rfl FLaw17.z30 PIn.nil fun b24 w24 hb24 h24 => ?_
  simp only [rngs, Nat.zero_add, Nat.reduceAdd, List.cons_append, List.nil_append] at h24
  refine Plan.alloc h24 rfl FLaw17.z31 PIn.nil fun b25 w25 hb25 h25 => ?_
  simp only [rngs, Nat.zero_add, Nat.reduceAdd, List.cons_append, List.nil_append] at h25
  refine Plan.alloc h25 rfl FLaw17.z33 PIn.nil fun b26 w26 hb26 h26 => ?_
  simp only [rngs, Nat.zero_add, Nat.reduceAdd, List.cons_append, List.nil_append] at h26
  refine Plan.storeA (f' := fun q => VU .u8 (x_15 q)) h26 5 rfl rfl rfl rfl (fun _ _ => rfl) FLaw17.sz23 rfl fun w27 h27 => ?_
  simp only [List.cons_append, List.nil_append, List.set_cons_zero, List.set_cons_succ] at h27
  refine Plan.storeA (f' := fun q => VU .u8 (x_16 q)) h27 4 rfl rfl rfl rfl (fun _ _ => rfl) FLaw17.sz30 rfl fun w28 h28 => ?_
  simp only [List.cons_append, List.nil_append, List.set_cons_zero, List.set_cons_succ] at h28
  refine Plan.storeA (f' := fun q => VU .u8 (x_17 q)) h28 3 rfl rfl rfl rfl (fun _ _ => rfl) FLaw17.sz31 rfl fun w29 h29 => ?_
  simp only [List.cons_append, List.nil_append, List.set_cons_zero, List.set_cons_succ] at h29
  refine Plan.storeP (ps := [(32, fun q => VU .u8 (x_18 q)), (32, fun q => VU .u8 (x_19 q)), (1, fun _ => VU .u32 x_20)]) h29 rfl rfl rfl (.cons 0 rfl (.cons 1 rfl (.cons 2 rfl .nil))) ⟨fun _ _ => rfl, fun _ _ => rfl, fun _ _ => rfl, trivial⟩ FLaw17.sz33 (EffO.keep PIn.nil) fun w30 h30 => ?_
  simp only [List.cons_append, List.nil_append, List.set_cons_zero, List.set_cons_succ] at h30
  refine Plan.assign_int rfl rfl ?_
  refine Plan.nil ?_
  refine hK13 _ _ ?_; clear hK13
  refine W.seq_k fun K31 hK31 => ?_
  refine W.regionT [(0, true), (1, true), (2, true), (3, true), (4, true), (5, true), (6, false)] (by kernel_rfl) ?_
  refine Plan.loadA1 h30 5 rfl rfl rfl FLaw17.agg23 ?_
  refine Plan.loadA1 h30 4 rfl rfl rfl FLaw17.agg30 ?_
  refine Plan.loadA1 h30 3 rfl rfl rfl FLaw17.agg31 ?_
  refine Plan.loadA h30 rfl rfl (.cons 0 rfl (.cons 1 rfl (.cons 2 rfl .nil))) FLaw17.agg33 ?_
  refine Plan.move_int rfl rfl ?_
  refine Plan.buildP (ps := [(32, fun q => VU .u8 (x_15 q)), (16, fun q => VU .u8 (x_16 q)), (64, fun q => VU .u8 (x_17 q)), (32, fun q => VU .u8 (x_18 q)), (32, fun q => VU .u8 (x_19 q)), (1, fun _ => VU .u32 x_20), (1, fun _ => VN x_21)]) FLaw17.pl35 (by decide) FLaw17.z35 rfl rfl (.agg [] [(32, fun q => VU .u8 ((fun _ => 0#8) q))] [(16, fun q => VU .u8 ((fun _ => 0#8) q)), (64, fun q => VU .u8 ((fun _ => 0#8) q)), (32, fun q => VU .u8 ((fun _ => 0#8) q)), (32, fun q => VU .u8 ((fun _ => 0#8) q)), (1, fun _ => VU .u32 (0#32)), (1, fun _ => VN 0)] [(32, fun q => VU .u8 (x_15 q))] rfl rfl (.agg [(32, fun q => VU .u8 (x_15 q))] [(16, fun q => VU .u8 ((fun _ => 0#8) q))] [(64, fun q => VU .u8 ((fun _ => 0#8) q)), (32, fun q => VU .u8 ((fun _ => 0#8) q)), (32, fun q => VU .u8 ((fun _ => 0#8) q)), (1, fun _ => VU .u32 (0#32)), (1, fun _ => VN 0)] [(16, fun q => VU .u8 (x_16 q))] rfl rfl (.agg [(32, fun q => VU .u8 (x_15 q)), (16, fun q => VU .u8 (x_16 q))] [(64, fun q => VU .u8 ((fun _ => 0#8) q))] [(32, fun q => VU .u8 ((fun _ => 0#8) q)), (32, fun q => VU .u8 ((fun _ => 0#8) q)), (1, fun _ => VU .u32 (0#32)), (1, fun _ => VN 0)] [(64, fun q => VU .u8 (x_17 q))] rfl rfl (.agg [(32, fun q => VU .u8 (x_15 q)), (16, fun q => VU .u8 (x_16 q)), (64, fun q => VU .u8 (x_17 q))] [(32, fun q => VU .u8 ((fun _ => 0#8) q)), (32, fun q => VU .u8 ((fun _ => 0#8) q)), (1, fun _ => VU .u32 (0#32))] [(1, fun _ => VN 0)] [(32, fun q => VU .u8 (x_18 q)), (32, fun q => VU .u8 (x_19 q)), (1, fun _ => VU .u32 x_20)] rfl rfl (.one [(32, fun q => VU .u8 (x_15 q)), (16, fun q => VU .u8 (x_16 q)), (64, fun q => VU .u8 (x_17 q)), (32, fun q => VU .u8 (x_18 q)), (32, fun q => VU .u8 (x_19 q)), (1, fun _ => VU .u32 x_20)] [] (fun _ => VN 0) rfl rfl .nil))))) ?_
  refine Plan.storeP (ps := [(32, fun q => VU .u8 (x_15 q)), (16, fun q => VU .u8 (x_16 q)), (64, fun q => VU .u8 (x_17 q)), (32, fun q => VU .u8 (x_18 q)), (32, fun q => VU .u8 (x_19 q)), (1, fun _ => VU .u32 x_20), (1, fun _ => VN x_21)]) h30 rfl rfl rfl (.cons 6 rfl (.cons 7 rfl (.cons 8 rfl (.cons 9 rfl (.cons 10 rfl (.cons 11 rfl (.cons 12 rfl .nil))))))) ⟨fun _ _ => rfl, fun _ _ => rfl, fun _ _ => rfl, fun _ _ => rfl, fun _ _ => rfl, fun _ _ => rfl, fun _ _ => rfl, trivial⟩ FLaw17.sz35 (EffO.wait rfl) fun w32 h32 => ?_
  simp only [List.cons_append, List.nil_append, List.set_cons_zero, List.set_cons_succ] at h32
  refine Plan.nil ?_
  refine hK31 _ _ ?_; clear hK31
  refine W.ret (finR_ret ?_)
  have h33 := St.pickT (C := [_, _, _, _, _, _, _, _, _, _, _, _, _, _, _, _, _, _, _, _]) h32 [] (by decide)
  simp only [pick, List.filterMap_cons, List.filterMap_nil, List.getElem?_cons_zero, List.getElem?_cons_succ, List.cons_append, List.nil_append] at h33
  subst r
  refine RetOk.mk (.agg h32 rfl (.cons 6 rfl (.cons 7 rfl (.cons 8 rfl (.cons 9 rfl (.cons 10 rfl (.cons 11 rfl (.cons 12 rfl .nil))))))) FLaw17.agg35 .nil) ?_
  exact ⟨rfl, h33⟩


set_option maxRecDepth 8000 in
set_option maxHeartbeats 1000000 in
theorem lethelaw17_meet_ok {B : Nat} {w0 w : World} {L : List Rg} {iG0 : Nat} (hG0 : L[iG0]? = some ⟨some 0, 0, 5, fun q => VU .u64 (twice5 q), false⟩) {iG1 : Nat} (hG1 : L[iG1]? = some ⟨some 1, 0, 8, fun q => VU .u32 (H256 q), false⟩) {iG3 : Nat} (hG3 : L[iG3]? = some ⟨some 3, 0, 64, fun q => VU .u32 (K256 q), false⟩) {pPriv1 : Nat → BitVec 8} {pPub2 : Nat → BitVec 8} {qPriv3 : Nat → BitVec 8} {qPub4 : Nat → BitVec 8} {hIdentity5 : Nat → BitVec 8} {hOnce6 : Nat → BitVec 8} {hPrekey7 : BitVec 32} {r : ((Nat → BitVec 8) × (Nat → BitVec 8) × (Nat → BitVec 8) × (Nat → BitVec 8) × (Nat → BitVec 8) × (BitVec 32) × Nat)} (hR : lethelaw17_meet pPriv1 pPub2 qPriv3 qPub4 hIdentity5 hOnce6 hPrekey7 r) (HST : St B w0 (L) w) :
    Calls Tryd.prog 12 #[AG [(32, fun q => VU .u8 (pPriv1 q)), (32, fun q => VU .u8 (pPub2 q))], AG [(32, fun q => VU .u8 (qPriv3 q)), (32, fun q => VU .u8 (qPub4 q))], AG [(32, fun q => VU .u8 (hIdentity5 q)), (32, fun q => VU .u8 (hOnce6 q)), (1, fun _ => VU .u32 hPrekey7)]] w fun e w' => e = .returned (AG [(32, fun q => VU .u8 (r.1 q)), (16, fun q => VU .u8 (r.2.1 q)), (64, fun q => VU .u8 (r.2.2.1 q)), (32, fun q => VU .u8 (r.2.2.2.1 q)), (32, fun q => VU .u8 (r.2.2.2.2.1 q)), (1, fun _ => VU .u32 r.2.2.2.2.2.1), (1, fun _ => VN r.2.2.2.2.2.2)]) ∧ St B w0 (L) w' := by
  refine W.enter 25 Tryd.func12 rfl rfl rfl ?_
  unfold lethelaw17_meet at hR
  refine W.seq_k fun K8 hK8 => ?_
  refine W.regionT [(0, false), (1, false), (2, false), (3, false)] (by kernel_rfl) ?_
  refine Plan.boxA HST rfl rfl PIn.nil fun b9 w9 hb9 h9 => ?_
  simp only [rngs, Nat.zero_add, Nat.reduceAdd, List.cons_append, List.nil_append] at h9
  refine Plan.boxA h9 rfl rfl PIn.nil fun b10 w10 hb10 h10 => ?_
  simp only [rngs, Nat.zero_add, Nat.reduceAdd, List.cons_append, List.nil_append] at h10
  refine Plan.boxA h10 rfl rfl PIn.nil fun b11 w11 hb11 h11 => ?_
  simp only [rngs, Nat.zero_add, Nat.reduceAdd, List.cons_append, List.nil_append] at h11
  refine Plan.alloc h11 rfl FLaw17.z35 PIn.nil fun b12 w12 hb12 h12 => ?_
  simp only [rngs, Nat.zero_add, Nat.reduceAdd, List.cons_append, List.nil_append] at h12
  refine Plan.nil ?_
  refine hK8 _ _ ?_; clear hK8
  refine W.seq_k fun K13 hK13 => ?_
  refine W.regionT [(0, true), (1, true), (2, true), (3, false), (4, true), (5, true), (6, true), (7, true), (8, true), (9, false), (10, false), (11, false), (12, false), (13, false), (14, false), (15, true)] (by kernel_rfl) ?_
  refine Plan.loadA h12 rfl rfl (.cons 12 rfl (.cons 13 rfl .nil)) FLaw17.agg25 ?_
  refine Plan.loadA h12 rfl rfl (.cons 10 rfl (.cons 11 rfl .nil)) FLaw17.agg25 ?_
  refine Plan.loadA h12 rfl rfl (.cons 7 rfl (.cons 8 rfl (.cons 9 rfl .nil))) FLaw17.agg33 ?_
  obtain ⟨x_15, x_16, x_17, x_18, hr14, hR⟩ := hR
  refine Plan.call (vs := [AG [(32, fun q => VU .u8 (pPriv1 q)), (32, fun q => VU .u8 (pPub2 q))], AG [(32, fun q => VU .u8 (qPriv3 q)), (32, fun q => VU .u8 (qPub4 q))], AG [(32, fun q => VU .u8 (hIdentity5 q)), (32, fun q => VU .u8 (hOnce6 q)), (1, fun _ => VU .u32 hPrekey7)]]) rfl FLaw17.call22 rfl (agree_Meet_ok (iG0 := iG0 + 14) hG0 (iG1 := iG1 + 14) hG1 (iG3 := iG3 + 14) hG3 hr14 h12) ?_
  rintro _ w19 ⟨rfl, h19⟩
  refine ⟨_, rfl, .inr ⟨rfl, ?_⟩⟩
  refine Plan.move_tuple rfl rfl ?_
  refine Plan.extract_agg rfl rfl rfl ?_
  refine Plan.extract_agg rfl rfl rfl ?_
  refine Plan.extract_agg rfl rfl rfl ?_
  refine Plan.extract_int rfl rfl rfl ?_
  refine Plan.alloc h19 rfl FLaw17.z23 PIn.nil fun b20 w20 hb20 h20 => ?_
  simp only [rngs, Nat.zero_add, Nat.reduceAdd, List.cons_append, List.nil_append] at h20
  refine Plan.alloc h20 rfl FLaw17.z30 PIn.nil fun b21 w21 hb21 h21 => ?_
  simp only [rngs, Nat.zero_add, Nat.reduceAdd, List.cons_append, List.nil_append] at h21
  refine Plan.alloc h21 rfl FLaw17.z31 PIn.nil fun b22 w22 hb22 h22 => ?_
  simp only [rngs, Nat.zero_add, Nat.reduceAdd, List.cons_append, List.nil_append] at h22
  refine Plan.storeA (f' := fun q => VU .u8 (x_15 q)) h22 2 rfl rfl rfl rfl (fun _ _ => rfl) FLaw17.sz23 rfl fun w23 h23 => ?_
  simp only [List.cons_append, List.nil_append, List.set_cons_zero, List.set_cons_succ] at h23
  refine Plan.storeA (f' := fun q => VU .u8 (x_16 q)) h23 1 rfl rfl rfl rfl (fun _ _ => rfl) FLaw17.sz30 rfl fun w24 h24 => ?_
  simp only [List.cons_append, List.nil_append, List.set_cons_zero, List.set_cons_succ] at h24
  refine Plan.storeA (f' := fun q => VU .u8 (x_17 q)) h24 0 rfl rfl rfl rfl (fun _ _ => rfl) FLaw17.sz31 rfl fun w25 h25 => ?_
  simp only [List.cons_append, List.nil_append, List.set_cons_zero, List.set_cons_succ] at h25
  refine Plan.assign_int rfl rfl ?_
  refine Plan.nil ?_
  refine hK13 _ _ ?_; clear hK13
  refine W.seq_k fun K26 hK26 => ?_
  refine W.regionT [(0, true), (1, true), (2, true), (3, true), (4, true), (5, false)] (by kernel_rfl) ?_
  refine Plan.loadA1 h25 2 rfl rfl rfl FLaw17.agg23 ?_
  refine Plan.loadA1 h25 1 rfl rfl rfl FLaw17.agg30 ?_
  refine Plan.loadA1 h25 0 rfl rfl rfl FLaw17.agg31 ?_
  refine Plan.move_int rfl rfl ?_
  refine Plan.buildP (ps := [(32, fun q => VU .u8 (x_15 q)), (16, fun q => VU .u8 (x_16 q)), (64, fun q => VU .u8 (x_17 q)), (32, fun q => VU .u8 ((fun _ => 0#8) q)), (32, fun q => VU .u8 ((fun _ => 0#8) q)), (1, fun _ => VU .u32 (0#32)), (1, fun _ => VN x_18)]) FLaw17.pl35 (by decide) FLaw17.z35 rfl rfl (.agg [] [(32, fun q => VU .u8 ((fun _ => 0#8) q))] [(16, fun q => VU .u8 ((fun _ => 0#8) q)), (64, fun q => VU .u8 ((fun _ => 0#8) q)), (32, fun q => VU .u8 ((fun _ => 0#8) q)), (32, fun q => VU .u8 ((fun _ => 0#8) q)), (1, fun _ => VU .u32 (0#32)), (1, fun _ => VN 0)] [(32, fun q => VU .u8 (x_15 q))] rfl rfl (.agg [(32, fun q => VU .u8 (x_15 q))] [(16, fun q => VU .u8 ((fun _ => 0#8) q))] [(64, fun q => VU .u8 ((fun _ => 0#8) q)), (32, fun q => VU .u8 ((fun _ => 0#8) q)), (32, fun q => VU .u8 ((fun _ => 0#8) q)), (1, fun _ => VU .u32 (0#32)), (1, fun _ => VN 0)] [(16, fun q => VU .u8 (x_16 q))] rfl rfl (.agg [(32, fun q => VU .u8 (x_15 q)), (16, fun q => VU .u8 (x_16 q))] [(64, fun q => VU .u8 ((fun _ => 0#8) q))] [(32, fun q => VU .u8 ((fun _ => 0#8) q)), (32, fun q => VU .u8 ((fun _ => 0#8) q)), (1, fun _ => VU .u32 (0#32)), (1, fun _ => VN 0)] [(64, fun q => VU .u8 (x_17 q))] rfl rfl (.one [(32, fun q => VU .u8 (x_15 q)), (16, fun q => VU .u8 (x_16 q)), (64, fun q => VU .u8 (x_17 q)), (32, fun q => VU .u8 ((fun _ => 0#8) q)), (32, fun q => VU .u8 ((fun _ => 0#8) q)), (1, fun _ => VU .u32 (0#32))] [] (fun _ => VN 0) rfl rfl .nil)))) ?_
  refine Plan.storeP (ps := [(32, fun q => VU .u8 (x_15 q)), (16, fun q => VU .u8 (x_16 q)), (64, fun q => VU .u8 (x_17 q)), (32, fun q => VU .u8 ((fun _ => 0#8) q)), (32, fun q => VU .u8 ((fun _ => 0#8) q)), (1, fun _ => VU .u32 (0#32)), (1, fun _ => VN x_18)]) h25 rfl rfl rfl (.cons 3 rfl (.cons 4 rfl (.cons 5 rfl (.cons 6 rfl (.cons 7 rfl (.cons 8 rfl (.cons 9 rfl .nil))))))) ⟨fun _ _ => rfl, fun _ _ => rfl, fun _ _ => rfl, fun _ _ => rfl, fun _ _ => rfl, fun _ _ => rfl, fun _ _ => rfl, trivial⟩ FLaw17.sz35 (EffO.wait rfl) fun w27 h27 => ?_
  simp only [List.cons_append, List.nil_append, List.set_cons_zero, List.set_cons_succ] at h27
  refine Plan.nil ?_
  refine hK26 _ _ ?_; clear hK26
  refine W.ret (finR_ret ?_)
  have h28 := St.pickT (C := [_, _, _, _, _, _, _, _, _, _, _, _, _, _, _, _, _]) h27 [] (by decide)
  simp only [pick, List.filterMap_cons, List.filterMap_nil, List.getElem?_cons_zero, List.getElem?_cons_succ, List.cons_append, List.nil_append] at h28
  subst r
  refine RetOk.mk (.agg h27 rfl (.cons 3 rfl (.cons 4 rfl (.cons 5 rfl (.cons 6 rfl (.cons 7 rfl (.cons 8 rfl (.cons 9 rfl .nil))))))) FLaw17.agg35 .nil) ?_
  exact ⟨rfl, h28⟩

end Go.Proofs.YtjclppnbbpnfnaaDoor
