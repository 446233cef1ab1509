/-
 WALKS of the package's functions, printed by this session's own program (auto.py).
-/
import Derived.Test.YtjclppnbbpnfnaaDoorProg
import Derived.Test.YtjclppnbbpnfnaaDoorEb
import Derived.Test.YtjclppnbbpnfnaaDoorRLaw17
import Derived.Test.YtjclppnbbpnfnaaDoorEls
import Derived.Test.YtjclppnbbpnfnaaDoorWAgree
import Derived.Test.YtjclppnbbpnfnaaDoorWCurve
import Derived.Test.YtjclppnbbpnfnaaDoorWRef17
namespace Go.Proofs.YtjclppnbbpnfnaaDoor
set_option linter.unusedSimpArgs false
set_option linter.unusedVariables false
set_option linter.unusedSectionVars false
set_option maxRecDepth 8000
set_option maxHeartbeats 1000000
open Go Go.LW
theorem FLaw17.z25 : zeroIs Tryd.prog 25 [(32, fun _ => VU .u8 0#8), (32, fun _ => VU .u8 0#8)] := zeroIs_agg (by kernel_rfl)
theorem FLaw17.mixed : Tryd.prog.follows .mixedOrders = true := by kernel_rfl
theorem FLaw17.agg23 : aggT Tryd.prog 23 32 = true := by kernel_rfl
theorem FLaw17.z23 : zeroIs Tryd.prog 23 [(32, fun _ => VU .u8 0#8)] := zeroIs_agg (by kernel_rfl)
theorem FLaw17.sz23 : szT Tryd.prog 23 32 = true := by kernel_rfl
theorem FLaw17.call20 : callB Tryd.prog 20 = true := by kernel_rfl
theorem FLaw17.pl25 : placesB Tryd.prog 25 [(0, 32), (32, 32)] = true := by kernel_rfl
theorem FLaw17.sz25 : szT Tryd.prog 25 64 = true := by kernel_rfl
theorem FLaw17.agg25 : aggT Tryd.prog 25 64 = true := by kernel_rfl
theorem FLaw17.z35 : zeroIs Tryd.prog 35 [(32, fun _ => VU .u8 0#8), (16, fun _ => VU .u8 0#8), (64, fun _ => VU .u8 0#8), (32, fun _ => VU .u8 0#8), (32, fun _ => VU .u8 0#8), (1, fun _ => VU .u32 0#32), (1, fun _ => .int .i64 0)] := zeroIs_agg (by kernel_rfl)
theorem FLaw17.agg28 : aggT Tryd.prog 28 65 = true := by kernel_rfl
theorem FLaw17.z30 : zeroIs Tryd.prog 30 [(16, fun _ => VU .u8 0#8)] := zeroIs_agg (by kernel_rfl)
theorem FLaw17.z31 : zeroIs Tryd.prog 31 [(64, fun _ => VU .u8 0#8)] := zeroIs_agg (by kernel_rfl)
theorem FLaw17.z33 : zeroIs Tryd.prog 33 [(32, fun _ => VU .u8 0#8), (32, fun _ => VU .u8 0#8), (1, fun _ => VU .u32 0#32)] := zeroIs_agg (by kernel_rfl)
theorem FLaw17.sc26 : scalarT Tryd.prog 26 = true := by kernel_rfl
theorem FLaw17.arrI23 : arrIB Tryd.prog 23 32 .u8 = true := by kernel_rfl
theorem FLaw17.sz30 : szT Tryd.prog 30 16 = true := by kernel_rfl
theorem FLaw17.sc3 : scalarT Tryd.prog 3 = true := by kernel_rfl
theorem FLaw17.agg31 : aggT Tryd.prog 31 64 = true := by kernel_rfl
theorem FLaw17.agg30 : aggT Tryd.prog 30 16 = true := by kernel_rfl
theorem FLaw17.sz31 : szT Tryd.prog 31 64 = true := by kernel_rfl
theorem FLaw17.sz33 : szT Tryd.prog 33 65 = true := by kernel_rfl
theorem FLaw17.agg33 : aggT Tryd.prog 33 65 = true := by kernel_rfl
theorem FLaw17.call14 : callB Tryd.prog 14 = true := by kernel_rfl
theorem FLaw17.pl35 : placesB Tryd.prog 35 [(0, 32), (32, 16), (48, 64), (112, 65), (177, 1)] = true := by kernel_rfl
theorem FLaw17.sz35 : szT Tryd.prog 35 178 = true := by kernel_rfl
theorem FLaw17.agg35 : aggT Tryd.prog 35 178 = true := by kernel_rfl
theorem FLaw17.call7 : callB Tryd.prog 7 = true := by kernel_rfl
theorem FLaw17.arrI30 : arrIB Tryd.prog 30 16 .u8 = true := by kernel_rfl
theorem FLaw17.arrI31 : arrIB Tryd.prog 31 64 .u8 = true := by kernel_rfl
theorem FLaw17.int26 : intT Tryd.prog 26 .u32 = true := by kernel_rfl
theorem FLaw17.flds33 : fieldsB Tryd.prog 33 [(23, 0), (23, 32), (26, 64)] = true := by kernel_rfl
theorem FLaw17.int3 : intT Tryd.prog 3 .i64 = true := by kernel_rfl
theorem FLaw17.flds35 : fieldsB Tryd.prog 35 [(23, 0), (30, 32), (31, 48), (33, 112), (3, 177)] = true := by kernel_rfl
theorem FLaw17.eqg35 : Tryd.prog.eqGuardType Tryd.prog.depth 35 = false := by kernel_rfl
theorem FLaw17.call22 : callB Tryd.prog 22 = true := by kernel_rfl
theorem FLaw17.call12 : callB Tryd.prog 12 = true := by kernel_rfl
theorem FLaw17.fld47_0 : fieldB Tryd.prog 47 0 0 = true := by kernel_rfl
theorem FLaw17.fld47_1 : fieldB Tryd.prog 47 1 1 = true := by kernel_rfl
theorem FLaw17.fld47_2 : fieldB Tryd.prog 47 2 65 = true := by kernel_rfl
theorem FLaw17.fld47_3 : fieldB Tryd.prog 47 3 129 = true := by kernel_rfl
theorem FLaw17.call18 : callB Tryd.prog 18 = true := by kernel_rfl
theorem FLaw17.fld47_4 : fieldB Tryd.prog 47 4 194 = true := by kernel_rfl
theorem FLaw17.call19 : callB Tryd.prog 19 = true := by kernel_rfl
theorem lethelaw17_start_ok {B : Nat} {w0 w : World} {L : List Rg} {iG0 : Nat} (hG0 : L[iG0]? = some ⟨some 0, 0, 5, fun q => VU .u64 (twice5 q), false⟩) {iG1 : Nat} (hG1 : L[iG1]? = some ⟨some 1, 0, 8, fun q => VU .u32 (H256 q), false⟩) {iG3 : Nat} (hG3 : L[iG3]? = some ⟨some 3, 0, 64, fun q => VU .u32 (K256 q), false⟩) {pPriv1 : Nat → BitVec 8} {pPub2 : Nat → BitVec 8} {qPriv3 : Nat → BitVec 8} {qPub4 : Nat → BitVec 8} {oIdentity5 : Nat → BitVec 8} {oPrekey6 : BitVec 32} {oKey7 : Nat → BitVec 8} {r : ((Nat → BitVec 8) × (Nat → BitVec 8) × (Nat → BitVec 8) × (Nat → BitVec 8) × (Nat → BitVec 8) × (BitVec 32) × Nat)} (hR : lethelaw17_start pPriv1 pPub2 qPriv3 qPub4 oIdentity5 oPrekey6 oKey7 r) (HST : St B w0 (L) w) :
  Calls Tryd.prog 7 #[AG [(32, fun q => VU .u8 (pPriv1 q)), (32, fun q => VU .u8 (pPub2 q))], AG [(32, fun q => VU .u8 (qPriv3 q)), (32, fun q => VU .u8 (qPub4 q))], AG [(32, fun q => VU .u8 (oIdentity5 q)), (1, fun _ => VU .u32 oPrekey6), (32, fun q => VU .u8 (oKey7 q))]] w fun e w' => e = .returned (AG [(32, fun q => VU .u8 (r.1 q)), (16, fun q => VU .u8 (r.2.1 q)), (64, fun q => VU .u8 (r.2.2.1 q)), (32, fun q => VU .u8 (r.2.2.2.1 q)), (32, fun q => VU .u8 (r.2.2.2.2.1 q)), (1, fun _ => VU .u32 r.2.2.2.2.2.1), (1, fun _ => VN r.2.2.2.2.2.2)]) ∧ St B w0 (L) w' := by
 refine W.enter 28 Tryd.func7 rfl rfl rfl ?_
 unfold lethelaw17_start at hR
 refine W.seq_k fun _ k8 => W.regionT [(0, false), (1, false), (2, false), (3, false)] (by kernel_rfl) ?_
 refine Plan.boxA HST rfl rfl PIn.nil fun b9 w9 hb9 h9 => ?_
 simp only [rngs, Nat.zero_add, Nat.reduceAdd, zca, zna] at h9
 refine Plan.boxA h9 rfl rfl PIn.nil fun b10 w10 hb10 h10 => ?_
 simp only [rngs, Nat.zero_add, Nat.reduceAdd, zca, zna] at h10
 refine Plan.boxA h10 rfl rfl PIn.nil fun b11 w11 hb11 h11 => ?_
 simp only [rngs, Nat.zero_add, Nat.reduceAdd, zca, zna] at h11
 refine Plan.alloc h11 rfl FLaw17.z35 PIn.nil fun b12 w12 hb12 h12 => ?_
 simp only [rngs, Nat.zero_add, Nat.reduceAdd, zca, zna] at h12
 refine Plan.nil (k8 _ _ ?_); clear k8
 refine W.seq_k fun _ k13 => W.regionT [(0, true), (1, true), (2, true), (3, false), (4, true), (5, true), (6, true), (7, true), (8, true), (9, true), (10, false), (11, false), (12, false), (13, false), (14, false), (15, false), (16, false), (17, false), (18, true)] (by kernel_rfl) ?_
 refine Plan.loadA h12 rfl rfl (.cons 12 rfl (.cons 13 rfl .nil)) FLaw17.agg25 <| Plan.loadA h12 rfl rfl (.cons 10 rfl (.cons 11 rfl .nil)) FLaw17.agg25 <| Plan.loadA h12 rfl rfl (.cons 7 rfl (.cons 8 rfl (.cons 9 rfl .nil))) FLaw17.agg28 ?_
 obtain ⟨x_15, x_16, x_17, x_18, x_19, x_20, x_21, hr14, hR⟩ := hR
 refine Plan.call (vs := [AG [(32, fun q => VU .u8 (pPriv1 q)), (32, fun q => VU .u8 (pPub2 q))], AG [(32, fun q => VU .u8 (qPriv3 q)), (32, fun q => VU .u8 (qPub4 q))], AG [(32, fun q => VU .u8 (oIdentity5 q)), (1, fun _ => VU .u32 oPrekey6), (32, fun q => VU .u8 (oKey7 q))]]) rfl FLaw17.call14 rfl (agree_Start_ok (iG0 := iG0 + 14) hG0 (iG1 := iG1 + 14) hG1 (iG3 := iG3 + 14) hG3 hr14 h12) ?_
 rintro _ w22 ⟨rfl, h22⟩
 refine ⟨_, rfl, .inr ⟨rfl, ?_⟩⟩
 refine Plan.move_tuple rfl rfl <| Plan.extract_agg rfl rfl rfl <| Plan.extract_agg rfl rfl rfl <| Plan.extract_agg rfl rfl rfl <| Plan.extract_agg rfl rfl rfl <| Plan.extract_int rfl rfl rfl ?_
 refine Plan.alloc h22 rfl FLaw17.z23 PIn.nil fun b23 w23 hb23 h23 => ?_
 simp only [rngs, Nat.zero_add, Nat.reduceAdd, zca, zna] at h23
 refine Plan.alloc h23 rfl FLaw17.z30 PIn.nil fun b24 w24 hb24 h24 => ?_
 simp only [rngs, Nat.zero_add, Nat.reduceAdd, zca, zna] at h24
 refine Plan.alloc h24 rfl FLaw17.z31 PIn.nil fun b25 w25 hb25 h25 => ?_
 simp only [rngs, Nat.zero_add, Nat.reduceAdd, zca, zna] at h25
 refine Plan.alloc h25 rfl FLaw17.z33 PIn.nil fun b26 w26 hb26 h26 => ?_
 simp only [rngs, Nat.zero_add, Nat.reduceAdd, zca, zna] at h26
 refine Plan.storeA (f' := fun q => VU .u8 (x_15 q)) h26 5 rfl rfl rfl rfl (fun _ _ => rfl) FLaw17.sz23 rfl fun w27 h27 => ?_
 simp only [zca, zna, zsz, zss] at h27
 refine Plan.storeA (f' := fun q => VU .u8 (x_16 q)) h27 4 rfl rfl rfl rfl (fun _ _ => rfl) FLaw17.sz30 rfl fun w28 h28 => ?_
 simp only [zca, zna, zsz, zss] at h28
 refine Plan.storeA (f' := fun q => VU .u8 (x_17 q)) h28 3 rfl rfl rfl rfl (fun _ _ => rfl) FLaw17.sz31 rfl fun w29 h29 => ?_
 simp only [zca, zna, zsz, zss] at h29
 refine Plan.storeP (ps := [(32, fun q => VU .u8 (x_18 q)), (32, fun q => VU .u8 (x_19 q)), (1, fun _ => VU .u32 x_20)]) h29 rfl rfl rfl (.cons 0 rfl (.cons 1 rfl (.cons 2 rfl .nil))) ⟨fun _ _ => rfl, fun _ _ => rfl, fun _ _ => rfl, trivial⟩ FLaw17.sz33 (EffO.keep PIn.nil) fun w30 h30 => ?_
 simp only [zca, zna, zsz, zss] at h30
 refine Plan.assign_int rfl rfl <| Plan.nil (k13 _ _ ?_); clear k13
 refine W.seq_k fun _ k31 => W.regionT [(0, true), (1, true), (2, true), (3, true), (4, true), (5, true), (6, false)] (by kernel_rfl) ?_
 refine Plan.loadA1 h30 5 rfl rfl rfl FLaw17.agg23 <| Plan.loadA1 h30 4 rfl rfl rfl FLaw17.agg30 <| Plan.loadA1 h30 3 rfl rfl rfl FLaw17.agg31 <| Plan.loadA h30 rfl rfl (.cons 0 rfl (.cons 1 rfl (.cons 2 rfl .nil))) FLaw17.agg33 <| Plan.move_int rfl rfl ?_
 refine Plan.buildP (ps := [(32, fun q => VU .u8 (x_15 q)), (16, fun q => VU .u8 (x_16 q)), (64, fun q => VU .u8 (x_17 q)), (32, fun q => VU .u8 (x_18 q)), (32, fun q => VU .u8 (x_19 q)), (1, fun _ => VU .u32 x_20), (1, fun _ => VN x_21)]) FLaw17.pl35 (by decide) FLaw17.z35 rfl rfl (.agg [] [(32, fun q => VU .u8 ((fun _ => 0#8) q))] [(16, fun q => VU .u8 ((fun _ => 0#8) q)), (64, fun q => VU .u8 ((fun _ => 0#8) q)), (32, fun q => VU .u8 ((fun _ => 0#8) q)), (32, fun q => VU .u8 ((fun _ => 0#8) q)), (1, fun _ => VU .u32 (0#32)), (1, fun _ => VN 0)] [(32, fun q => VU .u8 (x_15 q))] rfl rfl (.agg [(32, fun q => VU .u8 (x_15 q))] [(16, fun q => VU .u8 ((fun _ => 0#8) q))] [(64, fun q => VU .u8 ((fun _ => 0#8) q)), (32, fun q => VU .u8 ((fun _ => 0#8) q)), (32, fun q => VU .u8 ((fun _ => 0#8) q)), (1, fun _ => VU .u32 (0#32)), (1, fun _ => VN 0)] [(16, fun q => VU .u8 (x_16 q))] rfl rfl (.agg [(32, fun q => VU .u8 (x_15 q)), (16, fun q => VU .u8 (x_16 q))] [(64, fun q => VU .u8 ((fun _ => 0#8) q))] [(32, fun q => VU .u8 ((fun _ => 0#8) q)), (32, fun q => VU .u8 ((fun _ => 0#8) q)), (1, fun _ => VU .u32 (0#32)), (1, fun _ => VN 0)] [(64, fun q => VU .u8 (x_17 q))] rfl rfl (.agg [(32, fun q => VU .u8 (x_15 q)), (16, fun q => VU .u8 (x_16 q)), (64, fun q => VU .u8 (x_17 q))] [(32, fun q => VU .u8 ((fun _ => 0#8) q)), (32, fun q => VU .u8 ((fun _ => 0#8) q)), (1, fun _ => VU .u32 (0#32))] [(1, fun _ => VN 0)] [(32, fun q => VU .u8 (x_18 q)), (32, fun q => VU .u8 (x_19 q)), (1, fun _ => VU .u32 x_20)] rfl rfl (.one [(32, fun q => VU .u8 (x_15 q)), (16, fun q => VU .u8 (x_16 q)), (64, fun q => VU .u8 (x_17 q)), (32, fun q => VU .u8 (x_18 q)), (32, fun q => VU .u8 (x_19 q)), (1, fun _ => VU .u32 x_20)] [] (fun _ => VN 0) rfl rfl .nil))))) ?_
 refine Plan.storeP (ps := [(32, fun q => VU .u8 (x_15 q)), (16, fun q => VU .u8 (x_16 q)), (64, fun q => VU .u8 (x_17 q)), (32, fun q => VU .u8 (x_18 q)), (32, fun q => VU .u8 (x_19 q)), (1, fun _ => VU .u32 x_20), (1, fun _ => VN x_21)]) h30 rfl rfl rfl (.cons 6 rfl (.cons 7 rfl (.cons 8 rfl (.cons 9 rfl (.cons 10 rfl (.cons 11 rfl (.cons 12 rfl .nil))))))) ⟨fun _ _ => rfl, fun _ _ => rfl, fun _ _ => rfl, fun _ _ => rfl, fun _ _ => rfl, fun _ _ => rfl, fun _ _ => rfl, trivial⟩ FLaw17.sz35 (EffO.wait rfl) fun w32 h32 => ?_
 simp only [zca, zna, zsz, zss] at h32
 refine Plan.nil (k31 _ _ ?_); clear k31
 refine W.ret (finR_ret ?_)
 have h33 := St.pickT (C := [_, _, _, _, _, _, _, _, _, _, _, _, _, _, _, _, _, _, _, _]) h32 [] (by decide)
 simp only [pick, zfc, zfn, zgz, zgs, zca, zna] at h33
 subst r
 refine RetOk.mk (.agg h32 rfl (.cons 6 rfl (.cons 7 rfl (.cons 8 rfl (.cons 9 rfl (.cons 10 rfl (.cons 11 rfl (.cons 12 rfl .nil))))))) FLaw17.agg35 .nil) ?_
 exact ⟨rfl, h33⟩
theorem lethelaw17_meet_ok {B : Nat} {w0 w : World} {L : List Rg} {iG0 : Nat} (hG0 : L[iG0]? = some ⟨some 0, 0, 5, fun q => VU .u64 (twice5 q), false⟩) {iG1 : Nat} (hG1 : L[iG1]? = some ⟨some 1, 0, 8, fun q => VU .u32 (H256 q), false⟩) {iG3 : Nat} (hG3 : L[iG3]? = some ⟨some 3, 0, 64, fun q => VU .u32 (K256 q), false⟩) {pPriv1 : Nat → BitVec 8} {pPub2 : Nat → BitVec 8} {qPriv3 : Nat → BitVec 8} {qPub4 : Nat → BitVec 8} {hIdentity5 : Nat → BitVec 8} {hOnce6 : Nat → BitVec 8} {hPrekey7 : BitVec 32} {r : ((Nat → BitVec 8) × (Nat → BitVec 8) × (Nat → BitVec 8) × (Nat → BitVec 8) × (Nat → BitVec 8) × (BitVec 32) × Nat)} (hR : lethelaw17_meet pPriv1 pPub2 qPriv3 qPub4 hIdentity5 hOnce6 hPrekey7 r) (HST : St B w0 (L) w) :
  Calls Tryd.prog 12 #[AG [(32, fun q => VU .u8 (pPriv1 q)), (32, fun q => VU .u8 (pPub2 q))], AG [(32, fun q => VU .u8 (qPriv3 q)), (32, fun q => VU .u8 (qPub4 q))], AG [(32, fun q => VU .u8 (hIdentity5 q)), (32, fun q => VU .u8 (hOnce6 q)), (1, fun _ => VU .u32 hPrekey7)]] w fun e w' => e = .returned (AG [(32, fun q => VU .u8 (r.1 q)), (16, fun q => VU .u8 (r.2.1 q)), (64, fun q => VU .u8 (r.2.2.1 q)), (32, fun q => VU .u8 (r.2.2.2.1 q)), (32, fun q => VU .u8 (r.2.2.2.2.1 q)), (1, fun _ => VU .u32 r.2.2.2.2.2.1), (1, fun _ => VN r.2.2.2.2.2.2)]) ∧ St B w0 (L) w' := by
 refine W.enter 25 Tryd.func12 rfl rfl rfl ?_
 unfold lethelaw17_meet at hR
 refine W.seq_k fun _ k8 => W.regionT [(0, false), (1, false), (2, false), (3, false)] (by kernel_rfl) ?_
 refine Plan.boxA HST rfl rfl PIn.nil fun b9 w9 hb9 h9 => ?_
 simp only [rngs, Nat.zero_add, Nat.reduceAdd, zca, zna] at h9
 refine Plan.boxA h9 rfl rfl PIn.nil fun b10 w10 hb10 h10 => ?_
 simp only [rngs, Nat.zero_add, Nat.reduceAdd, zca, zna] at h10
 refine Plan.boxA h10 rfl rfl PIn.nil fun b11 w11 hb11 h11 => ?_
 simp only [rngs, Nat.zero_add, Nat.reduceAdd, zca, zna] at h11
 refine Plan.alloc h11 rfl FLaw17.z35 PIn.nil fun b12 w12 hb12 h12 => ?_
 simp only [rngs, Nat.zero_add, Nat.reduceAdd, zca, zna] at h12
 refine Plan.nil (k8 _ _ ?_); clear k8
 refine W.seq_k fun _ k13 => W.regionT [(0, true), (1, true), (2, true), (3, false), (4, true), (5, true), (6, true), (7, true), (8, true), (9, false), (10, false), (11, false), (12, false), (13, false), (14, false), (15, true)] (by kernel_rfl) ?_
 refine Plan.loadA h12 rfl rfl (.cons 12 rfl (.cons 13 rfl .nil)) FLaw17.agg25 <| Plan.loadA h12 rfl rfl (.cons 10 rfl (.cons 11 rfl .nil)) FLaw17.agg25 <| Plan.loadA h12 rfl rfl (.cons 7 rfl (.cons 8 rfl (.cons 9 rfl .nil))) FLaw17.agg33 ?_
 obtain ⟨x_15, x_16, x_17, x_18, hr14, hR⟩ := hR
 refine Plan.call (vs := [AG [(32, fun q => VU .u8 (pPriv1 q)), (32, fun q => VU .u8 (pPub2 q))], AG [(32, fun q => VU .u8 (qPriv3 q)), (32, fun q => VU .u8 (qPub4 q))], AG [(32, fun q => VU .u8 (hIdentity5 q)), (32, fun q => VU .u8 (hOnce6 q)), (1, fun _ => VU .u32 hPrekey7)]]) rfl FLaw17.call22 rfl (agree_Meet_ok (iG0 := iG0 + 14) hG0 (iG1 := iG1 + 14) hG1 (iG3 := iG3 + 14) hG3 hr14 h12) ?_
 rintro _ w19 ⟨rfl, h19⟩
 refine ⟨_, rfl, .inr ⟨rfl, ?_⟩⟩
 refine Plan.move_tuple rfl rfl <| Plan.extract_agg rfl rfl rfl <| Plan.extract_agg rfl rfl rfl <| Plan.extract_agg rfl rfl rfl <| Plan.extract_int rfl rfl rfl ?_
 refine Plan.alloc h19 rfl FLaw17.z23 PIn.nil fun b20 w20 hb20 h20 => ?_
 simp only [rngs, Nat.zero_add, Nat.reduceAdd, zca, zna] at h20
 refine Plan.alloc h20 rfl FLaw17.z30 PIn.nil fun b21 w21 hb21 h21 => ?_
 simp only [rngs, Nat.zero_add, Nat.reduceAdd, zca, zna] at h21
 refine Plan.alloc h21 rfl FLaw17.z31 PIn.nil fun b22 w22 hb22 h22 => ?_
 simp only [rngs, Nat.zero_add, Nat.reduceAdd, zca, zna] at h22
 refine Plan.storeA (f' := fun q => VU .u8 (x_15 q)) h22 2 rfl rfl rfl rfl (fun _ _ => rfl) FLaw17.sz23 rfl fun w23 h23 => ?_
 simp only [zca, zna, zsz, zss] at h23
 refine Plan.storeA (f' := fun q => VU .u8 (x_16 q)) h23 1 rfl rfl rfl rfl (fun _ _ => rfl) FLaw17.sz30 rfl fun w24 h24 => ?_
 simp only [zca, zna, zsz, zss] at h24
 refine Plan.storeA (f' := fun q => VU .u8 (x_17 q)) h24 0 rfl rfl rfl rfl (fun _ _ => rfl) FLaw17.sz31 rfl fun w25 h25 => ?_
 simp only [zca, zna, zsz, zss] at h25
 refine Plan.assign_int rfl rfl <| Plan.nil (k13 _ _ ?_); clear k13
 refine W.seq_k fun _ k26 => W.regionT [(0, true), (1, true), (2, true), (3, true), (4, true), (5, false)] (by kernel_rfl) ?_
 refine Plan.loadA1 h25 2 rfl rfl rfl FLaw17.agg23 <| Plan.loadA1 h25 1 rfl rfl rfl FLaw17.agg30 <| Plan.loadA1 h25 0 rfl rfl rfl FLaw17.agg31 <| Plan.move_int rfl rfl ?_
 refine Plan.buildP (ps := [(32, fun q => VU .u8 (x_15 q)), (16, fun q => VU .u8 (x_16 q)), (64, fun q => VU .u8 (x_17 q)), (32, fun q => VU .u8 ((fun _ => 0#8) q)), (32, fun q => VU .u8 ((fun _ => 0#8) q)), (1, fun _ => VU .u32 (0#32)), (1, fun _ => VN x_18)]) FLaw17.pl35 (by decide) FLaw17.z35 rfl rfl (.agg [] [(32, fun q => VU .u8 ((fun _ => 0#8) q))] [(16, fun q => VU .u8 ((fun _ => 0#8) q)), (64, fun q => VU .u8 ((fun _ => 0#8) q)), (32, fun q => VU .u8 ((fun _ => 0#8) q)), (32, fun q => VU .u8 ((fun _ => 0#8) q)), (1, fun _ => VU .u32 (0#32)), (1, fun _ => VN 0)] [(32, fun q => VU .u8 (x_15 q))] rfl rfl (.agg [(32, fun q => VU .u8 (x_15 q))] [(16, fun q => VU .u8 ((fun _ => 0#8) q))] [(64, fun q => VU .u8 ((fun _ => 0#8) q)), (32, fun q => VU .u8 ((fun _ => 0#8) q)), (32, fun q => VU .u8 ((fun _ => 0#8) q)), (1, fun _ => VU .u32 (0#32)), (1, fun _ => VN 0)] [(16, fun q => VU .u8 (x_16 q))] rfl rfl (.agg [(32, fun q => VU .u8 (x_15 q)), (16, fun q => VU .u8 (x_16 q))] [(64, fun q => VU .u8 ((fun _ => 0#8) q))] [(32, fun q => VU .u8 ((fun _ => 0#8) q)), (32, fun q => VU .u8 ((fun _ => 0#8) q)), (1, fun _ => VU .u32 (0#32)), (1, fun _ => VN 0)] [(64, fun q => VU .u8 (x_17 q))] rfl rfl (.one [(32, fun q => VU .u8 (x_15 q)), (16, fun q => VU .u8 (x_16 q)), (64, fun q => VU .u8 (x_17 q)), (32, fun q => VU .u8 ((fun _ => 0#8) q)), (32, fun q => VU .u8 ((fun _ => 0#8) q)), (1, fun _ => VU .u32 (0#32))] [] (fun _ => VN 0) rfl rfl .nil)))) ?_
 refine Plan.storeP (ps := [(32, fun q => VU .u8 (x_15 q)), (16, fun q => VU .u8 (x_16 q)), (64, fun q => VU .u8 (x_17 q)), (32, fun q => VU .u8 ((fun _ => 0#8) q)), (32, fun q => VU .u8 ((fun _ => 0#8) q)), (1, fun _ => VU .u32 (0#32)), (1, fun _ => VN x_18)]) h25 rfl rfl rfl (.cons 3 rfl (.cons 4 rfl (.cons 5 rfl (.cons 6 rfl (.cons 7 rfl (.cons 8 rfl (.cons 9 rfl .nil))))))) ⟨fun _ _ => rfl, fun _ _ => rfl, fun _ _ => rfl, fun _ _ => rfl, fun _ _ => rfl, fun _ _ => rfl, fun _ _ => rfl, trivial⟩ FLaw17.sz35 (EffO.wait rfl) fun w27 h27 => ?_
 simp only [zca, zna, zsz, zss] at h27
 refine Plan.nil (k26 _ _ ?_); clear k26
 refine W.ret (finR_ret ?_)
 have h28 := St.pickT (C := [_, _, _, _, _, _, _, _, _, _, _, _, _, _, _, _, _]) h27 [] (by decide)
 simp only [pick, zfc, zfn, zgz, zgs, zca, zna] at h28
 subst r
 refine RetOk.mk (.agg h27 rfl (.cons 3 rfl (.cons 4 rfl (.cons 5 rfl (.cons 6 rfl (.cons 7 rfl (.cons 8 rfl (.cons 9 rfl .nil))))))) FLaw17.agg35 .nil) ?_
 exact ⟨rfl, h28⟩
theorem lethelaw17_plays_ok {B : Nat} {w0 w : World} {L : List Rg} {iG0 : Nat} (hG0 : L[iG0]? = some ⟨some 0, 0, 5, fun q => VU .u64 (twice5 q), false⟩) {iG1 : Nat} (hG1 : L[iG1]? = some ⟨some 1, 0, 8, fun q => VU .u32 (H256 q), false⟩) {iG3 : Nat} (hG3 : L[iG3]? = some ⟨some 3, 0, 64, fun q => VU .u32 (K256 q), false⟩) {iG4 : Nat} (hG4 : L[iG4]? = some ⟨some 4, 0, 8, fun q => VU .u64 (H64 q), false⟩) {iG5 : Nat} (hG5 : L[iG5]? = some ⟨some 5, 0, 64, fun q => VU .u64 (K64 q), false⟩) {oKind1 : Int} {oP2 : Nat → BitVec 8} {oP3 : Nat → BitVec 8} {oQ4 : Nat → BitVec 8} {oQ5 : Nat → BitVec 8} {oOffer6 : Nat → BitVec 8} {oOffer7 : BitVec 32} {oOffer8 : Nat → BitVec 8} {oHello9 : Nat → BitVec 8} {oHello10 : Nat → BitVec 8} {oHello11 : BitVec 32} {r : Bool} (hR : lethelaw17_plays oKind1 oP2 oP3 oQ4 oQ5 oOffer6 oOffer7 oOffer8 oHello9 oHello10 oHello11 r) (HST : St B w0 (L) w) :
  Calls Tryd.prog 10 #[AG [(1, fun _ => .int .i64 oKind1), (32, fun q => VU .u8 (oP2 q)), (32, fun q => VU .u8 (oP3 q)), (32, fun q => VU .u8 (oQ4 q)), (32, fun q => VU .u8 (oQ5 q)), (32, fun q => VU .u8 (oOffer6 q)), (1, fun _ => VU .u32 oOffer7), (32, fun q => VU .u8 (oOffer8 q)), (32, fun q => VU .u8 (oHello9 q)), (32, fun q => VU .u8 (oHello10 q)), (1, fun _ => VU .u32 oHello11)]] w fun e w' => e = .returned (.bool r) ∧ St B w0 (L) w' := by
 refine W.enter 39 Tryd.func10 rfl rfl rfl ?_
 unfold lethelaw17_plays at hR
 refine W.seq_k fun _ k12 => W.regionT [(0, false), (1, true)] (by kernel_rfl) ?_
 refine Plan.boxA HST rfl rfl PIn.nil fun b13 w13 hb13 h13 => ?_
 simp only [rngs, Nat.zero_add, Nat.reduceAdd, zca, zna] at h13
 refine Plan.assign_bool rfl rfl <| Plan.nil (k12 _ _ ?_); clear k12
 refine W.seq_k fun _ k14 => W.seq_k fun _ k15 => ?_
 refine W.regionT [(0, true), (1, true)] (by kernel_rfl) ?_
 refine Plan.fieldAddr0 FLaw17.fld47_0 rfl rfl <| Plan.load0 h13 0 rfl rfl rfl (by omega) FLaw17.sc3 <| Plan.nil (k15 _ _ ?_); clear k15
 refine W.block ?_
 refine W.seq_k fun _ k16 => W.regionT [(0, true), (1, true)] (by kernel_rfl) ?_
 refine Plan.cmpP (a := (oKind1 : Int)) (b := (1 : Int)) (p := oKind1 = 1) rfl rfl rfl rfl icmp_eq <| Plan.assign_bool rfl rfl <| Plan.nil (k16 _ _ ?_); clear k16
 by_cases hc17 : oKind1 = 1
 ·
  replace hR := ifT hR hc17
  refine W.condT (congrArg Value.bool (decide_eq_true hc17)) ?_
  refine W.seq_k fun _ k18 => ?_
  refine W.regionD FLaw17.mixed [(0, true), (1, true), (2, true), (3, true), (4, true), (5, true), (7, true), (8, true), (9, true), (10, true), (11, true), (12, true), (6, false), (13, false), (14, true), (15, true)] (by kernel_rfl) ?_
  have h19 := h13.drew
  refine Plan.fieldAddr 1 FLaw17.fld47_1 rfl rfl <| Plan.loadA h19 rfl rfl (.cons 1 rfl (.cons 2 rfl .nil)) FLaw17.agg25 <| Plan.fieldAddr 65 FLaw17.fld47_2 rfl rfl <| Plan.loadA h19 rfl rfl (.cons 3 rfl (.cons 4 rfl .nil)) FLaw17.agg25 <| Plan.fieldAddr 129 FLaw17.fld47_3 rfl rfl <| Plan.loadA h19 rfl rfl (.cons 5 rfl (.cons 6 rfl (.cons 7 rfl .nil))) FLaw17.agg28 <| Plan.fieldAddr 1 FLaw17.fld47_1 rfl rfl <| Plan.loadA h19 rfl rfl (.cons 1 rfl (.cons 2 rfl .nil)) FLaw17.agg25 ?_
  refine Plan.fieldAddr 65 FLaw17.fld47_2 rfl rfl <| Plan.loadA h19 rfl rfl (.cons 3 rfl (.cons 4 rfl .nil)) FLaw17.agg25 <| Plan.fieldAddr 129 FLaw17.fld47_3 rfl rfl <| Plan.loadA h19 rfl rfl (.cons 5 rfl (.cons 6 rfl (.cons 7 rfl .nil))) FLaw17.agg28 ?_
  obtain ⟨x_21, x_22, x_23, x_24, x_25, x_26, x_27, hr20, hR⟩ := hR
  refine Plan.call (vs := [AG [(32, fun q => VU .u8 (oP2 q)), (32, fun q => VU .u8 (oP3 q))], AG [(32, fun q => VU .u8 (oQ4 q)), (32, fun q => VU .u8 (oQ5 q))], AG [(32, fun q => VU .u8 (oOffer6 q)), (1, fun _ => VU .u32 oOffer7), (32, fun q => VU .u8 (oOffer8 q))]]) rfl FLaw17.call7 rfl (lethelaw17_start_ok (iG0 := iG0 + 11) hG0 (iG1 := iG1 + 11) hG1 (iG3 := iG3 + 11) hG3 hr20 h19) ?_
  rintro _ w28 ⟨rfl, h28⟩
  refine ⟨_, rfl, .inl ⟨PIn.keep (PIn.parts (.cons 5 rfl (.cons 6 rfl (.cons 7 rfl .nil))) (PIn.parts (.cons 3 rfl (.cons 4 rfl .nil)) (PIn.parts (.cons 1 rfl (.cons 2 rfl .nil)) (PIn.parts (.cons 5 rfl (.cons 6 rfl (.cons 7 rfl .nil))) (PIn.parts (.cons 3 rfl (.cons 4 rfl .nil)) (PIn.parts (.cons 1 rfl (.cons 2 rfl .nil)) PIn.nil)))))) h28, ?_⟩⟩
  obtain ⟨x_30, x_31, x_32, x_33, x_34, x_35, x_36, hr29, hR⟩ := hR
  refine Plan.call (vs := [AG [(32, fun q => VU .u8 (oP2 q)), (32, fun q => VU .u8 (oP3 q))], AG [(32, fun q => VU .u8 (oQ4 q)), (32, fun q => VU .u8 (oQ5 q))], AG [(32, fun q => VU .u8 (oOffer6 q)), (1, fun _ => VU .u32 oOffer7), (32, fun q => VU .u8 (oOffer8 q))]]) rfl FLaw17.call18 rfl (letheref17_Start_ok (iG4 := iG4 + 11) hG4 (iG5 := iG5 + 11) hG5 hr29 h28) ?_
  rintro _ w37 ⟨rfl, h37⟩
  refine ⟨_, rfl, .inl ⟨PIn.keep (PIn.parts (.cons 5 rfl (.cons 6 rfl (.cons 7 rfl .nil))) (PIn.parts (.cons 3 rfl (.cons 4 rfl .nil)) (PIn.parts (.cons 1 rfl (.cons 2 rfl .nil)) (PIn.parts (.cons 5 rfl (.cons 6 rfl (.cons 7 rfl .nil))) (PIn.parts (.cons 3 rfl (.cons 4 rfl .nil)) (PIn.parts (.cons 1 rfl (.cons 2 rfl .nil)) PIn.nil)))))) h37, ?_⟩⟩
  refine Plan.eqStrV' (c := ((eqB 32 x_21 x_30) && ((eqB 16 x_22 x_31) && ((eqB 64 x_23 x_32) && (((eqB 32 x_24 x_33) && ((eqB 32 x_25 x_34) && ((decide (x_26 = x_35)) && true))) && ((decide ((x_27 : Nat) = x_36)) && true)))))) FLaw17.eqg35 rfl rfl rfl (EqV.struct (d := 9999) (l := [(23, 0), (30, 32), (31, 48), (33, 112), (3, 177)]) FLaw17.flds35 (.agg [] [(32, fun q => VU .u8 (x_21 q))] [(16, fun q => VU .u8 (x_22 q)), (64, fun q => VU .u8 (x_23 q)), (32, fun q => VU .u8 (x_24 q)), (32, fun q => VU .u8 (x_25 q)), (1, fun _ => VU .u32 x_26), (1, fun _ => VN x_27)] [] [(32, fun q => VU .u8 (x_30 q))] [(16, fun q => VU .u8 (x_31 q)), (64, fun q => VU .u8 (x_32 q)), (32, fun q => VU .u8 (x_33 q)), (32, fun q => VU .u8 (x_34 q)), (1, fun _ => VU .u32 x_35), (1, fun _ => VN x_36)] rfl rfl rfl rfl FLaw17.agg23 FLaw17.agg23 (EqV.arr (d := 9997) (F := x_21) (G := x_30) FLaw17.arrI23) (.agg [(32, fun q => VU .u8 (x_21 q))] [(16, fun q => VU .u8 (x_22 q))] [(64, fun q => VU .u8 (x_23 q)), (32, fun q => VU .u8 (x_24 q)), (32, fun q => VU .u8 (x_25 q)), (1, fun _ => VU .u32 x_26), (1, fun _ => VN x_27)] [(32, fun q => VU .u8 (x_30 q))] [(16, fun q => VU .u8 (x_31 q))] [(64, fun q => VU .u8 (x_32 q)), (32, fun q => VU .u8 (x_33 q)), (32, fun q => VU .u8 (x_34 q)), (1, fun _ => VU .u32 x_35), (1, fun _ => VN x_36)] rfl rfl rfl rfl FLaw17.agg30 FLaw17.agg30 (EqV.arr (d := 9997) (F := x_22) (G := x_31) FLaw17.arrI30) (.agg [(32, fun q => VU .u8 (x_21 q)), (16, fun q => VU .u8 (x_22 q))] [(64, fun q => VU .u8 (x_23 q))] [(32, fun q => VU .u8 (x_24 q)), (32, fun q => VU .u8 (x_25 q)), (1, fun _ => VU .u32 x_26), (1, fun _ => VN x_27)] [(32, fun q => VU .u8 (x_30 q)), (16, fun q => VU .u8 (x_31 q))] [(64, fun q => VU .u8 (x_32 q))] [(32, fun q => VU .u8 (x_33 q)), (32, fun q => VU .u8 (x_34 q)), (1, fun _ => VU .u32 x_35), (1, fun _ => VN x_36)] rfl rfl rfl rfl FLaw17.agg31 FLaw17.agg31 (EqV.arr (d := 9997) (F := x_23) (G := x_32) FLaw17.arrI31) (.agg [(32, fun q => VU .u8 (x_21 q)), (16, fun q => VU .u8 (x_22 q)), (64, fun q => VU .u8 (x_23 q))] [(32, fun q => VU .u8 (x_24 q)), (32, fun q => VU .u8 (x_25 q)), (1, fun _ => VU .u32 x_26)] [(1, fun _ => VN x_27)] [(32, fun q => VU .u8 (x_30 q)), (16, fun q => VU .u8 (x_31 q)), (64, fun q => VU .u8 (x_32 q))] [(32, fun q => VU .u8 (x_33 q)), (32, fun q => VU .u8 (x_34 q)), (1, fun _ => VU .u32 x_35)] [(1, fun _ => VN x_36)] rfl rfl rfl rfl FLaw17.agg33 FLaw17.agg33 (EqV.struct (d := 9998) (l := [(23, 0), (23, 32), (26, 64)]) FLaw17.flds33 (.agg [] [(32, fun q => VU .u8 (x_24 q))] [(32, fun q => VU .u8 (x_25 q)), (1, fun _ => VU .u32 x_26)] [] [(32, fun q => VU .u8 (x_33 q))] [(32, fun q => VU .u8 (x_34 q)), (1, fun _ => VU .u32 x_35)] rfl rfl rfl rfl FLaw17.agg23 FLaw17.agg23 (EqV.arr (d := 9996) (F := x_24) (G := x_33) FLaw17.arrI23) (.agg [(32, fun q => VU .u8 (x_24 q))] [(32, fun q => VU .u8 (x_25 q))] [(1, fun _ => VU .u32 x_26)] [(32, fun q => VU .u8 (x_33 q))] [(32, fun q => VU .u8 (x_34 q))] [(1, fun _ => VU .u32 x_35)] rfl rfl rfl rfl FLaw17.agg23 FLaw17.agg23 (EqV.arr (d := 9996) (F := x_25) (G := x_34) FLaw17.arrI23) (.one [(32, fun q => VU .u8 (x_24 q)), (32, fun q => VU .u8 (x_25 q))] [] [(32, fun q => VU .u8 (x_33 q)), (32, fun q => VU .u8 (x_34 q))] [] (fun _ => VU .u32 x_26) (fun _ => VU .u32 x_35) rfl rfl rfl rfl FLaw17.sc26 rfl rfl (EqV.u (d := 9997) (a := x_26) (b := x_35) FLaw17.int26) .nil)))) (.one [(32, fun q => VU .u8 (x_21 q)), (16, fun q => VU .u8 (x_22 q)), (64, fun q => VU .u8 (x_23 q)), (32, fun q => VU .u8 (x_24 q)), (32, fun q => VU .u8 (x_25 q)), (1, fun _ => VU .u32 x_26)] [] [(32, fun q => VU .u8 (x_30 q)), (16, fun q => VU .u8 (x_31 q)), (64, fun q => VU .u8 (x_32 q)), (32, fun q => VU .u8 (x_33 q)), (32, fun q => VU .u8 (x_34 q)), (1, fun _ => VU .u32 x_35)] [] (fun _ => VN x_27) (fun _ => VN x_36) rfl rfl rfl rfl FLaw17.sc3 rfl rfl (EqV.nat (d := 9998) (a := x_27) (b := x_36) FLaw17.int3) .nil)))))) rfl ?_
  refine Plan.assign_bool rfl rfl <| Plan.nil (k18 _ _ ?_); clear k18
  refine W.ret (blockR_ret (thenR_ret (finR_ret ?_)))
  have h38 := St.pickT (C := [_, _, _, _, _, _, _, _, _, _, _]) h37 [] (by decide)
  simp only [pick, zfc, zfn, zgz, zgs, zca, zna] at h38
  subst r
  refine RetOk.mk (.tmp_bool rfl .nil) ?_
  exact ⟨rfl, h38⟩
 ·
  replace hR := ifF hR hc17
  refine W.condF (congrArg Value.bool (decide_eq_false hc17)) ?_
  refine W.seq_k fun _ k39 => W.regionT [(0, true), (1, true)] (by kernel_rfl) ?_
  refine Plan.cmpP (a := (oKind1 : Int)) (b := (2 : Int)) (p := oKind1 = 2) rfl rfl rfl rfl icmp_eq <| Plan.assign_bool rfl rfl <| Plan.nil (k39 _ _ ?_); clear k39
  by_cases hc40 : oKind1 = 2
  ·
   replace hR := ifT hR hc40
   refine W.condT (congrArg Value.bool (decide_eq_true hc40)) ?_
   refine W.seq_k fun _ k41 => ?_
   refine W.regionD FLaw17.mixed [(0, true), (1, true), (2, true), (3, true), (4, true), (5, true), (7, true), (8, true), (9, true), (10, true), (11, true), (12, true), (6, false), (13, false), (14, true), (15, true)] (by kernel_rfl) ?_
   have h42 := h13.drew
   refine Plan.fieldAddr 1 FLaw17.fld47_1 rfl rfl <| Plan.loadA h42 rfl rfl (.cons 1 rfl (.cons 2 rfl .nil)) FLaw17.agg25 <| Plan.fieldAddr 65 FLaw17.fld47_2 rfl rfl <| Plan.loadA h42 rfl rfl (.cons 3 rfl (.cons 4 rfl .nil)) FLaw17.agg25 <| Plan.fieldAddr 194 FLaw17.fld47_4 rfl rfl <| Plan.loadA h42 rfl rfl (.cons 8 rfl (.cons 9 rfl (.cons 10 rfl .nil))) FLaw17.agg33 <| Plan.fieldAddr 1 FLaw17.fld47_1 rfl rfl <| Plan.loadA h42 rfl rfl (.cons 1 rfl (.cons 2 rfl .nil)) FLaw17.agg25 ?_
   refine Plan.fieldAddr 65 FLaw17.fld47_2 rfl rfl <| Plan.loadA h42 rfl rfl (.cons 3 rfl (.cons 4 rfl .nil)) FLaw17.agg25 <| Plan.fieldAddr 194 FLaw17.fld47_4 rfl rfl <| Plan.loadA h42 rfl rfl (.cons 8 rfl (.cons 9 rfl (.cons 10 rfl .nil))) FLaw17.agg33 ?_
   obtain ⟨x_44, x_45, x_46, x_47, x_48, x_49, x_50, hr43, hR⟩ := hR
   refine Plan.call (vs := [AG [(32, fun q => VU .u8 (oP2 q)), (32, fun q => VU .u8 (oP3 q))], AG [(32, fun q => VU .u8 (oQ4 q)), (32, fun q => VU .u8 (oQ5 q))], AG [(32, fun q => VU .u8 (oHello9 q)), (32, fun q => VU .u8 (oHello10 q)), (1, fun _ => VU .u32 oHello11)]]) rfl FLaw17.call12 rfl (lethelaw17_meet_ok (iG0 := iG0 + 11) hG0 (iG1 := iG1 + 11) hG1 (iG3 := iG3 + 11) hG3 hr43 h42) ?_
   rintro _ w51 ⟨rfl, h51⟩
   refine ⟨_, rfl, .inl ⟨PIn.keep (PIn.parts (.cons 8 rfl (.cons 9 rfl (.cons 10 rfl .nil))) (PIn.parts (.cons 3 rfl (.cons 4 rfl .nil)) (PIn.parts (.cons 1 rfl (.cons 2 rfl .nil)) (PIn.parts (.cons 8 rfl (.cons 9 rfl (.cons 10 rfl .nil))) (PIn.parts (.cons 3 rfl (.cons 4 rfl .nil)) (PIn.parts (.cons 1 rfl (.cons 2 rfl .nil)) PIn.nil)))))) h51, ?_⟩⟩
   obtain ⟨x_53, x_54, x_55, x_56, x_57, x_58, x_59, hr52, hR⟩ := hR
   refine Plan.call (vs := [AG [(32, fun q => VU .u8 (oP2 q)), (32, fun q => VU .u8 (oP3 q))], AG [(32, fun q => VU .u8 (oQ4 q)), (32, fun q => VU .u8 (oQ5 q))], AG [(32, fun q => VU .u8 (oHello9 q)), (32, fun q => VU .u8 (oHello10 q)), (1, fun _ => VU .u32 oHello11)]]) rfl FLaw17.call19 rfl (letheref17_Meet_ok (iG4 := iG4 + 11) hG4 (iG5 := iG5 + 11) hG5 hr52 h51) ?_
   rintro _ w60 ⟨rfl, h60⟩
   refine ⟨_, rfl, .inl ⟨PIn.keep (PIn.parts (.cons 8 rfl (.cons 9 rfl (.cons 10 rfl .nil))) (PIn.parts (.cons 3 rfl (.cons 4 rfl .nil)) (PIn.parts (.cons 1 rfl (.cons 2 rfl .nil)) (PIn.parts (.cons 8 rfl (.cons 9 rfl (.cons 10 rfl .nil))) (PIn.parts (.cons 3 rfl (.cons 4 rfl .nil)) (PIn.parts (.cons 1 rfl (.cons 2 rfl .nil)) PIn.nil)))))) h60, ?_⟩⟩
   refine Plan.eqStrV' (c := ((eqB 32 x_44 x_53) && ((eqB 16 x_45 x_54) && ((eqB 64 x_46 x_55) && (((eqB 32 x_47 x_56) && ((eqB 32 x_48 x_57) && ((decide (x_49 = x_58)) && true))) && ((decide ((x_50 : Nat) = x_59)) && true)))))) FLaw17.eqg35 rfl rfl rfl (EqV.struct (d := 9999) (l := [(23, 0), (30, 32), (31, 48), (33, 112), (3, 177)]) FLaw17.flds35 (.agg [] [(32, fun q => VU .u8 (x_44 q))] [(16, fun q => VU .u8 (x_45 q)), (64, fun q => VU .u8 (x_46 q)), (32, fun q => VU .u8 (x_47 q)), (32, fun q => VU .u8 (x_48 q)), (1, fun _ => VU .u32 x_49), (1, fun _ => VN x_50)] [] [(32, fun q => VU .u8 (x_53 q))] [(16, fun q => VU .u8 (x_54 q)), (64, fun q => VU .u8 (x_55 q)), (32, fun q => VU .u8 (x_56 q)), (32, fun q => VU .u8 (x_57 q)), (1, fun _ => VU .u32 x_58), (1, fun _ => VN x_59)] rfl rfl rfl rfl FLaw17.agg23 FLaw17.agg23 (EqV.arr (d := 9997) (F := x_44) (G := x_53) FLaw17.arrI23) (.agg [(32, fun q => VU .u8 (x_44 q))] [(16, fun q => VU .u8 (x_45 q))] [(64, fun q => VU .u8 (x_46 q)), (32, fun q => VU .u8 (x_47 q)), (32, fun q => VU .u8 (x_48 q)), (1, fun _ => VU .u32 x_49), (1, fun _ => VN x_50)] [(32, fun q => VU .u8 (x_53 q))] [(16, fun q => VU .u8 (x_54 q))] [(64, fun q => VU .u8 (x_55 q)), (32, fun q => VU .u8 (x_56 q)), (32, fun q => VU .u8 (x_57 q)), (1, fun _ => VU .u32 x_58), (1, fun _ => VN x_59)] rfl rfl rfl rfl FLaw17.agg30 FLaw17.agg30 (EqV.arr (d := 9997) (F := x_45) (G := x_54) FLaw17.arrI30) (.agg [(32, fun q => VU .u8 (x_44 q)), (16, fun q => VU .u8 (x_45 q))] [(64, fun q => VU .u8 (x_46 q))] [(32, fun q => VU .u8 (x_47 q)), (32, fun q => VU .u8 (x_48 q)), (1, fun _ => VU .u32 x_49), (1, fun _ => VN x_50)] [(32, fun q => VU .u8 (x_53 q)), (16, fun q => VU .u8 (x_54 q))] [(64, fun q => VU .u8 (x_55 q))] [(32, fun q => VU .u8 (x_56 q)), (32, fun q => VU .u8 (x_57 q)), (1, fun _ => VU .u32 x_58), (1, fun _ => VN x_59)] rfl rfl rfl rfl FLaw17.agg31 FLaw17.agg31 (EqV.arr (d := 9997) (F := x_46) (G := x_55) FLaw17.arrI31) (.agg [(32, fun q => VU .u8 (x_44 q)), (16, fun q => VU .u8 (x_45 q)), (64, fun q => VU .u8 (x_46 q))] [(32, fun q => VU .u8 (x_47 q)), (32, fun q => VU .u8 (x_48 q)), (1, fun _ => VU .u32 x_49)] [(1, fun _ => VN x_50)] [(32, fun q => VU .u8 (x_53 q)), (16, fun q => VU .u8 (x_54 q)), (64, fun q => VU .u8 (x_55 q))] [(32, fun q => VU .u8 (x_56 q)), (32, fun q => VU .u8 (x_57 q)), (1, fun _ => VU .u32 x_58)] [(1, fun _ => VN x_59)] rfl rfl rfl rfl FLaw17.agg33 FLaw17.agg33 (EqV.struct (d := 9998) (l := [(23, 0), (23, 32), (26, 64)]) FLaw17.flds33 (.agg [] [(32, fun q => VU .u8 (x_47 q))] [(32, fun q => VU .u8 (x_48 q)), (1, fun _ => VU .u32 x_49)] [] [(32, fun q => VU .u8 (x_56 q))] [(32, fun q => VU .u8 (x_57 q)), (1, fun _ => VU .u32 x_58)] rfl rfl rfl rfl FLaw17.agg23 FLaw17.agg23 (EqV.arr (d := 9996) (F := x_47) (G := x_56) FLaw17.arrI23) (.agg [(32, fun q => VU .u8 (x_47 q))] [(32, fun q => VU .u8 (x_48 q))] [(1, fun _ => VU .u32 x_49)] [(32, fun q => VU .u8 (x_56 q))] [(32, fun q => VU .u8 (x_57 q))] [(1, fun _ => VU .u32 x_58)] rfl rfl rfl rfl FLaw17.agg23 FLaw17.agg23 (EqV.arr (d := 9996) (F := x_48) (G := x_57) FLaw17.arrI23) (.one [(32, fun q => VU .u8 (x_47 q)), (32, fun q => VU .u8 (x_48 q))] [] [(32, fun q => VU .u8 (x_56 q)), (32, fun q => VU .u8 (x_57 q))] [] (fun _ => VU .u32 x_49) (fun _ => VU .u32 x_58) rfl rfl rfl rfl FLaw17.sc26 rfl rfl (EqV.u (d := 9997) (a := x_49) (b := x_58) FLaw17.int26) .nil)))) (.one [(32, fun q => VU .u8 (x_44 q)), (16, fun q => VU .u8 (x_45 q)), (64, fun q => VU .u8 (x_46 q)), (32, fun q => VU .u8 (x_47 q)), (32, fun q => VU .u8 (x_48 q)), (1, fun _ => VU .u32 x_49)] [] [(32, fun q => VU .u8 (x_53 q)), (16, fun q => VU .u8 (x_54 q)), (64, fun q => VU .u8 (x_55 q)), (32, fun q => VU .u8 (x_56 q)), (32, fun q => VU .u8 (x_57 q)), (1, fun _ => VU .u32 x_58)] [] (fun _ => VN x_50) (fun _ => VN x_59) rfl rfl rfl rfl FLaw17.sc3 rfl rfl (EqV.nat (d := 9998) (a := x_50) (b := x_59) FLaw17.int3) .nil)))))) rfl ?_
   refine Plan.assign_bool rfl rfl <| Plan.nil (k41 _ _ ?_); clear k41
   refine W.ret (blockR_ret (thenR_ret (finR_ret ?_)))
   have h61 := St.pickT (C := [_, _, _, _, _, _, _, _, _, _, _]) h60 [] (by decide)
   simp only [pick, zfc, zfn, zgz, zgs, zca, zna] at h61
   subst r
   refine RetOk.mk (.tmp_bool rfl .nil) ?_
   exact ⟨rfl, h61⟩
  ·
   replace hR := ifF hR hc40
   refine W.condF (congrArg Value.bool (decide_eq_false hc40)) ?_
   refine W.skip ?_
   refine blockR_norm ?_
   refine k14 _ _ ?_; clear k14
   refine W.seq_k fun _ k62 => W.regionT [(0, true)] (by kernel_rfl) ?_
   refine Plan.assign_bool rfl rfl <| Plan.nil (k62 _ _ ?_); clear k62
   refine W.ret (finR_ret ?_)
   have h63 := St.pickT (C := [_, _, _, _, _, _, _, _, _, _, _]) h13 [] (by decide)
   simp only [pick, zfc, zfn, zgz, zgs, zca, zna] at h63
   subst r
   refine RetOk.mk (.tmp_bool rfl .nil) ?_
   exact ⟨rfl, h63⟩
end Go.Proofs.YtjclppnbbpnfnaaDoor
