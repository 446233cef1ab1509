/-
  WALKS of the package's functions, printed by this session's own program (auto.py).
-/
import Derived.Test.YtjclppnbbpnfnaaDoorProg
import Derived.Test.YtjclppnbbpnfnaaDoorEb
import Derived.Test.YtjclppnbbpnfnaaDoorRAgreeMeets
import Derived.Test.YtjclppnbbpnfnaaDoorEls
import Derived.Test.YtjclppnbbpnfnaaDoorWLaw17
import Derived.Test.YtjclppnbbpnfnaaDoorWRef17
namespace Go.Proofs.YtjclppnbbpnfnaaDoor
set_option linter.unusedSimpArgs false
set_option linter.unusedVariables false
set_option linter.unusedSectionVars false
open Go Go.LW
theorem FAgreeMeets.z25 : zeroIs Tryd.prog 25 [(32, fun _ => VU .u8 0#8), (32, fun _ => VU .u8 0#8)] := zeroIs_agg (by kernel_rfl)
theorem FAgreeMeets.mixed : Tryd.prog.follows .mixedOrders = true := by kernel_rfl
theorem FAgreeMeets.agg23 : aggT Tryd.prog 23 32 = true := by kernel_rfl
theorem FAgreeMeets.sz25 : szT Tryd.prog 25 64 = true := by kernel_rfl
theorem FAgreeMeets.agg25 : aggT Tryd.prog 25 64 = true := by kernel_rfl
theorem FAgreeMeets.call11 : callB Tryd.prog 11 = true := by kernel_rfl
theorem FAgreeMeets.fld25_1 : fieldB Tryd.prog 25 1 32 = true := by kernel_rfl
theorem FAgreeMeets.pl28 : placesB Tryd.prog 28 [(0, 32), (32, 1), (33, 32)] = true := by kernel_rfl
theorem FAgreeMeets.z28 : zeroIs Tryd.prog 28 [(32, fun _ => VU .u8 0#8), (1, fun _ => VU .u32 0#32), (32, fun _ => VU .u8 0#8)] := zeroIs_agg (by kernel_rfl)
theorem FAgreeMeets.z35 : zeroIs Tryd.prog 35 [(32, fun _ => VU .u8 0#8), (16, fun _ => VU .u8 0#8), (64, fun _ => VU .u8 0#8), (32, fun _ => VU .u8 0#8), (32, fun _ => VU .u8 0#8), (1, fun _ => VU .u32 0#32), (1, fun _ => .int .i64 0)] := zeroIs_agg (by kernel_rfl)
theorem FAgreeMeets.z33 : zeroIs Tryd.prog 33 [(32, fun _ => VU .u8 0#8), (32, fun _ => VU .u8 0#8), (1, fun _ => VU .u32 0#32)] := zeroIs_agg (by kernel_rfl)
theorem FAgreeMeets.sc26 : scalarT Tryd.prog 26 = true := by kernel_rfl
theorem FAgreeMeets.arrI23 : arrIB Tryd.prog 23 32 .u8 = true := by kernel_rfl
theorem FAgreeMeets.sc3 : scalarT Tryd.prog 3 = true := by kernel_rfl
theorem FAgreeMeets.agg31 : aggT Tryd.prog 31 64 = true := by kernel_rfl
theorem FAgreeMeets.agg30 : aggT Tryd.prog 30 16 = true := by kernel_rfl
theorem FAgreeMeets.pl33 : placesB Tryd.prog 33 [(0, 32), (32, 32), (64, 1)] = true := by kernel_rfl
theorem FAgreeMeets.sz33 : szT Tryd.prog 33 65 = true := by kernel_rfl
theorem FAgreeMeets.agg33 : aggT Tryd.prog 33 65 = true := by kernel_rfl
theorem FAgreeMeets.pl35 : placesB Tryd.prog 35 [(0, 32), (32, 16), (48, 64), (112, 65), (177, 1)] = true := by kernel_rfl
theorem FAgreeMeets.sz35 : szT Tryd.prog 35 178 = true := by kernel_rfl
theorem FAgreeMeets.agg35 : aggT Tryd.prog 35 178 = true := by kernel_rfl
theorem FAgreeMeets.call7 : callB Tryd.prog 7 = true := by kernel_rfl
theorem FAgreeMeets.arrI30 : arrIB Tryd.prog 30 16 .u8 = true := by kernel_rfl
theorem FAgreeMeets.arrI31 : arrIB Tryd.prog 31 64 .u8 = true := by kernel_rfl
theorem FAgreeMeets.int26 : intT Tryd.prog 26 .u32 = true := by kernel_rfl
theorem FAgreeMeets.flds33 : fieldsB Tryd.prog 33 [(23, 0), (23, 32), (26, 64)] = true := by kernel_rfl
theorem FAgreeMeets.int3 : intT Tryd.prog 3 .i64 = true := by kernel_rfl
theorem FAgreeMeets.flds35 : fieldsB Tryd.prog 35 [(23, 0), (30, 32), (31, 48), (33, 112), (3, 177)] = true := by kernel_rfl
theorem FAgreeMeets.eqg35 : Tryd.prog.eqGuardType Tryd.prog.depth 35 = false := by kernel_rfl
theorem FAgreeMeets.call12 : callB Tryd.prog 12 = true := by kernel_rfl
theorem FAgreeMeets.fld35_4 : fieldB Tryd.prog 35 4 177 = true := by kernel_rfl
theorem FAgreeMeets.fld35_3 : fieldB Tryd.prog 35 3 112 = true := by kernel_rfl
theorem FAgreeMeets.eqg33 : Tryd.prog.eqGuardType Tryd.prog.depth 33 = false := by kernel_rfl
theorem FAgreeMeets.fld35_0 : fieldB Tryd.prog 35 0 0 = true := by kernel_rfl
theorem FAgreeMeets.fld35_1 : fieldB Tryd.prog 35 1 32 = true := by kernel_rfl
theorem FAgreeMeets.fld35_2 : fieldB Tryd.prog 35 2 48 = true := by kernel_rfl
theorem FAgreeMeets.call13 : callB Tryd.prog 13 = true := by kernel_rfl

set_option maxRecDepth 8000 in
set_option maxHeartbeats 1000000 in
theorem lethelaw17_AgreeMeets_ok {B : Nat} {w0 w : World} {L : List Rg} {iG0 : Nat} (hG0 : L[iG0]? = some ⟨some 0, 0, 5, fun q => VU .u64 (twice5 q), false⟩) {iG1 : Nat} (hG1 : L[iG1]? = some ⟨some 1, 0, 8, fun q => VU .u32 (H256 q), false⟩) {iG3 : Nat} (hG3 : L[iG3]? = some ⟨some 3, 0, 64, fun q => VU .u32 (K256 q), false⟩) {a1 : Nat → BitVec 8} {e_2 : Nat → BitVec 8} {b3 : Nat → BitVec 8} {p4 : Nat → BitVec 8} {number5 : BitVec 32} {r : Bool} (hR : lethelaw17_AgreeMeets a1 e_2 b3 p4 number5 r) (HST : St B w0 (L) w) :
    Calls Tryd.prog 5 #[AG [(32, fun q => VU .u8 (a1 q))], AG [(32, fun q => VU .u8 (e_2 q))], AG [(32, fun q => VU .u8 (b3 q))], AG [(32, fun q => VU .u8 (p4 q))], VU .u32 number5] w fun e w' => e = .returned (.bool r) ∧ St B w0 (L) w' := by
  refine W.enter 115 Tryd.func5 rfl rfl rfl ?_
  unfold lethelaw17_AgreeMeets at hR
  refine W.seq_k fun K6 hK6 => ?_
  refine W.regionT [(0, false), (1, false), (2, false), (3, false), (4, true)] (by kernel_rfl) ?_
  refine Plan.boxA HST rfl rfl PIn.nil fun b7 w7 hb7 h7 => ?_
  simp only [rngs, Nat.zero_add, Nat.reduceAdd, List.cons_append, List.nil_append] at h7
  refine Plan.boxA h7 rfl rfl PIn.nil fun b8 w8 hb8 h8 => ?_
  simp only [rngs, Nat.zero_add, Nat.reduceAdd, List.cons_append, List.nil_append] at h8
  refine Plan.boxA h8 rfl rfl PIn.nil fun b9 w9 hb9 h9 => ?_
  simp only [rngs, Nat.zero_add, Nat.reduceAdd, List.cons_append, List.nil_append] at h9
  refine Plan.boxA h9 rfl rfl PIn.nil fun b10 w10 hb10 h10 => ?_
  simp only [rngs, Nat.zero_add, Nat.reduceAdd, List.cons_append, List.nil_append] at h10
  refine Plan.assign_bool rfl rfl ?_
  refine Plan.nil ?_
  refine hK6 _ _ ?_; clear hK6
  refine W.seq_k fun K11 hK11 => ?_
  refine W.regionX (B := B) (w0 := w0) (L := L) FAgreeMeets.mixed [⟨8, 11, 25, [(32, fun q => VU .u8 ((fun _ => 0#8) q)), (32, fun q => VU .u8 ((fun _ => 0#8) q))]⟩, ⟨9, 12, 25, [(32, fun q => VU .u8 ((fun _ => 0#8) q)), (32, fun q => VU .u8 ((fun _ => 0#8) q))]⟩, ⟨10, 13, 25, [(32, fun q => VU .u8 ((fun _ => 0#8) q)), (32, fun q => VU .u8 ((fun _ => 0#8) q))]⟩, ⟨11, 14, 25, [(32, fun q => VU .u8 ((fun _ => 0#8) q)), (32, fun q => VU .u8 ((fun _ => 0#8) q))]⟩] [(0, true), (2, true), (4, true), (6, true)] [[(1, false)], [(3, false)], [(5, false)], [(7, false)]] [(12, false), (13, false), (14, false), (15, false)] (by kernel_rfl) (by kernel_rfl) (.cons FAgreeMeets.z25 (.cons FAgreeMeets.z25 (.cons FAgreeMeets.z25 (.cons FAgreeMeets.z25 .nil)))) ?_
  have h12 := h10.drew
  refine Plan.loadA1 h12 3 rfl rfl rfl FAgreeMeets.agg23 ?_
  refine Plan.loadA1 h12 2 rfl rfl rfl FAgreeMeets.agg23 ?_
  refine Plan.loadA1 h12 1 rfl rfl rfl FAgreeMeets.agg23 ?_
  refine Plan.loadA1 h12 0 rfl rfl rfl FAgreeMeets.agg23 ?_
  refine Plan.nil ⟨[_, _, _, _], h12, (PIn.cons 0 rfl (PIn.cons 1 rfl (PIn.cons 2 rfl (PIn.cons 3 rfl PIn.nil)))), ?_⟩
  refine PX.step fun C13 z13 w13 h13 => ?_
  simp only [List.cons_append, List.nil_append] at h13
  obtain ⟨x_15, x_16, hr14, hR⟩ := hR
  refine Plan.call (vs := [AG [(32, fun q => VU .u8 (a1 q))]]) rfl FAgreeMeets.call11 rfl (lethelaw17_pair_ok (iG0 := (iG0 + C13.length) + 4) (flget hG0 C13) hr14 h13) ?_
  rintro _ w17 ⟨rfl, h17⟩
  refine ⟨_, rfl, .inl ⟨PIn.keep (PIn.cons 0 rfl (PIn.cons 1 rfl (PIn.cons 2 rfl (PIn.cons 3 rfl PIn.nil)))) h17, ?_⟩⟩
  refine Plan.nil ⟨[_, _, _, _], h17, (PIn.cons 0 rfl (PIn.cons 1 rfl (PIn.cons 2 rfl (PIn.cons 3 rfl PIn.nil)))), ?_⟩
  refine PX.step fun C18 z18 w18 h18 => ?_
  simp only [List.cons_append, List.nil_append] at h18
  obtain ⟨x_20, x_21, hr19, hR⟩ := hR
  refine Plan.call (vs := [AG [(32, fun q => VU .u8 (e_2 q))]]) rfl FAgreeMeets.call11 rfl (lethelaw17_pair_ok (iG0 := (iG0 + C18.length) + 4) (flget hG0 C18) hr19 h18) ?_
  rintro _ w22 ⟨rfl, h22⟩
  refine ⟨_, rfl, .inl ⟨PIn.keep (PIn.cons 0 rfl (PIn.cons 1 rfl (PIn.cons 2 rfl (PIn.cons 3 rfl PIn.nil)))) h22, ?_⟩⟩
  refine Plan.nil ⟨[_, _, _, _], h22, (PIn.cons 0 rfl (PIn.cons 1 rfl (PIn.cons 2 rfl (PIn.cons 3 rfl PIn.nil)))), ?_⟩
  refine PX.step fun C23 z23 w23 h23 => ?_
  simp only [List.cons_append, List.nil_append] at h23
  obtain ⟨x_25, x_26, hr24, hR⟩ := hR
  refine Plan.call (vs := [AG [(32, fun q => VU .u8 (b3 q))]]) rfl FAgreeMeets.call11 rfl (lethelaw17_pair_ok (iG0 := (iG0 + C23.length) + 4) (flget hG0 C23) hr24 h23) ?_
  rintro _ w27 ⟨rfl, h27⟩
  refine ⟨_, rfl, .inl ⟨PIn.keep (PIn.cons 0 rfl (PIn.cons 1 rfl (PIn.cons 2 rfl (PIn.cons 3 rfl PIn.nil)))) h27, ?_⟩⟩
  refine Plan.nil ⟨[_, _, _, _], h27, (PIn.cons 0 rfl (PIn.cons 1 rfl (PIn.cons 2 rfl (PIn.cons 3 rfl PIn.nil)))), ?_⟩
  refine PX.step fun C28 z28 w28 h28 => ?_
  simp only [List.cons_append, List.nil_append] at h28
  obtain ⟨x_30, x_31, hr29, hR⟩ := hR
  refine Plan.call (vs := [AG [(32, fun q => VU .u8 (p4 q))]]) rfl FAgreeMeets.call11 rfl (lethelaw17_pair_ok (iG0 := (iG0 + C28.length) + 4) (flget hG0 C28) hr29 h28) ?_
  rintro _ w32 ⟨rfl, h32⟩
  refine ⟨_, rfl, .inl ⟨PIn.keep (PIn.cons 0 rfl (PIn.cons 1 rfl (PIn.cons 2 rfl (PIn.cons 3 rfl PIn.nil)))) h32, ?_⟩⟩
  refine Plan.nil ⟨[_, _, _, _], h32, (PIn.cons 0 rfl (PIn.cons 1 rfl (PIn.cons 2 rfl (PIn.cons 3 rfl PIn.nil)))), ?_⟩
  refine PX.done (KE.step fun b33_8 => (KE.step fun b33_9 => (KE.step fun b33_10 => (KE.step fun b33_11 => (KE.fin fun w33 h33 => ?_)))))
  simp only [rngs, Nat.zero_add, Nat.reduceAdd, List.cons_append, List.nil_append] at h33
  refine Plan.storeP (ps := [(32, fun q => VU .u8 (x_15 q)), (32, fun q => VU .u8 (x_16 q))]) h33 rfl rfl rfl (.cons 4 rfl (.cons 5 rfl .nil)) ⟨fun _ _ => rfl, fun _ _ => rfl, trivial⟩ FAgreeMeets.sz25 (EffO.mix _ (Filt.keep rfl (Filt.keep rfl (Filt.keep rfl (Filt.drop rfl Filt.nil)))) (PIn.cons 0 rfl (PIn.cons 1 rfl (PIn.cons 2 rfl PIn.nil)))) fun w34 h34 => ?_
  simp only [List.cons_append, List.nil_append, List.set_cons_zero, List.set_cons_succ] at h34
  refine Plan.storeP (ps := [(32, fun q => VU .u8 (x_20 q)), (32, fun q => VU .u8 (x_21 q))]) h34 rfl rfl rfl (.cons 6 rfl (.cons 7 rfl .nil)) ⟨fun _ _ => rfl, fun _ _ => rfl, trivial⟩ FAgreeMeets.sz25 (EffO.mix _ (Filt.keep rfl (Filt.keep rfl (Filt.drop rfl Filt.nil))) (PIn.cons 0 rfl (PIn.cons 1 rfl PIn.nil))) fun w35 h35 => ?_
  simp only [List.cons_append, List.nil_append, List.set_cons_zero, List.set_cons_succ] at h35
  refine Plan.storeP (ps := [(32, fun q => VU .u8 (x_25 q)), (32, fun q => VU .u8 (x_26 q))]) h35 rfl rfl rfl (.cons 8 rfl (.cons 9 rfl .nil)) ⟨fun _ _ => rfl, fun _ _ => rfl, trivial⟩ FAgreeMeets.sz25 (EffO.mix _ (Filt.keep rfl (Filt.drop rfl Filt.nil)) (PIn.cons 0 rfl PIn.nil)) fun w36 h36 => ?_
  simp only [List.cons_append, List.nil_append, List.set_cons_zero, List.set_cons_succ] at h36
  refine Plan.storeP (ps := [(32, fun q => VU .u8 (x_30 q)), (32, fun q => VU .u8 (x_31 q))]) h36 rfl rfl rfl (.cons 10 rfl (.cons 11 rfl .nil)) ⟨fun _ _ => rfl, fun _ _ => rfl, trivial⟩ FAgreeMeets.sz25 (EffO.wait rfl) fun w37 h37 => ?_
  simp only [List.cons_append, List.nil_append, List.set_cons_zero, List.set_cons_succ] at h37
  refine Plan.nil ?_
  refine hK11 _ _ ?_; clear hK11
  refine W.seq_k fun K38 hK38 => ?_
  refine W.regionT [(0, true), (1, true), (2, true), (3, true), (4, true), (5, true), (6, true), (7, true), (8, false), (9, false), (10, false)] (by kernel_rfl) ?_
  refine Plan.loadA h37 rfl rfl (.cons 4 rfl (.cons 5 rfl .nil)) FAgreeMeets.agg25 ?_
  refine Plan.loadA h37 rfl rfl (.cons 6 rfl (.cons 7 rfl .nil)) FAgreeMeets.agg25 ?_
  refine Plan.fieldAddr 32 FAgreeMeets.fld25_1 rfl rfl ?_
  refine Plan.loadA1 h37 9 rfl rfl rfl FAgreeMeets.agg23 ?_
  refine Plan.move_int rfl rfl ?_
  refine Plan.fieldAddr 32 FAgreeMeets.fld25_1 rfl rfl ?_
  refine Plan.loadA1 h37 11 rfl rfl rfl FAgreeMeets.agg23 ?_
  refine Plan.buildP (ps := [(32, fun q => VU .u8 (x_26 q)), (1, fun _ => VU .u32 number5), (32, fun q => VU .u8 (x_31 q))]) FAgreeMeets.pl28 (by decide) FAgreeMeets.z28 rfl rfl (.agg [] [(32, fun q => VU .u8 ((fun _ => 0#8) q))] [(1, fun _ => VU .u32 (0#32)), (32, fun q => VU .u8 ((fun _ => 0#8) q))] [(32, fun q => VU .u8 (x_26 q))] rfl rfl (.one [(32, fun q => VU .u8 (x_26 q))] [(32, fun q => VU .u8 ((fun _ => 0#8) q))] (fun _ => VU .u32 (0#32)) rfl rfl (.agg [(32, fun q => VU .u8 (x_26 q)), (1, fun _ => VU .u32 number5)] [(32, fun q => VU .u8 ((fun _ => 0#8) q))] [] [(32, fun q => VU .u8 (x_31 q))] rfl rfl .nil))) ?_
  obtain ⟨x_40, x_41, x_42, x_43, x_44, x_45, x_46, hr39, hR⟩ := hR
  refine Plan.call (vs := [AG [(32, fun q => VU .u8 (x_15 q)), (32, fun q => VU .u8 (x_16 q))], AG [(32, fun q => VU .u8 (x_20 q)), (32, fun q => VU .u8 (x_21 q))], AG [(32, fun q => VU .u8 (x_26 q)), (1, fun _ => VU .u32 number5), (32, fun q => VU .u8 (x_31 q))]]) rfl FAgreeMeets.call7 rfl (lethelaw17_start_ok (iG0 := iG0 + 12) hG0 (iG1 := iG1 + 12) hG1 (iG3 := iG3 + 12) hG3 hr39 h37) ?_
  rintro _ w47 ⟨rfl, h47⟩
  refine ⟨_, rfl, .inl ⟨PIn.keep (PIn.cons 11 rfl (PIn.cons 9 rfl (PIn.parts (.cons 6 rfl (.cons 7 rfl .nil)) (PIn.parts (.cons 4 rfl (.cons 5 rfl .nil)) PIn.nil)))) h47, ?_⟩⟩
  refine Plan.alloc h47 rfl FAgreeMeets.z35 (PIn.cons 11 rfl (PIn.cons 9 rfl (PIn.parts (.cons 6 rfl (.cons 7 rfl .nil)) (PIn.parts (.cons 4 rfl (.cons 5 rfl .nil)) PIn.nil)))) fun b48 w48 hb48 h48 => ?_
  simp only [rngs, Nat.zero_add, Nat.reduceAdd, List.cons_append, List.nil_append] at h48
  refine Plan.storeP (ps := [(32, fun q => VU .u8 (x_40 q)), (16, fun q => VU .u8 (x_41 q)), (64, fun q => VU .u8 (x_42 q)), (32, fun q => VU .u8 (x_43 q)), (32, fun q => VU .u8 (x_44 q)), (1, fun _ => VU .u32 x_45), (1, fun _ => VN x_46)]) h48 rfl rfl rfl (.cons 0 rfl (.cons 1 rfl (.cons 2 rfl (.cons 3 rfl (.cons 4 rfl (.cons 5 rfl (.cons 6 rfl .nil))))))) ⟨fun _ _ => rfl, fun _ _ => rfl, fun _ _ => rfl, fun _ _ => rfl, fun _ _ => rfl, fun _ _ => rfl, fun _ _ => rfl, trivial⟩ FAgreeMeets.sz35 (EffO.wait rfl) fun w49 h49 => ?_
  simp only [List.cons_append, List.nil_append, List.set_cons_zero, List.set_cons_succ] at h49
  refine Plan.nil ?_
  refine hK38 _ _ ?_; clear hK38
  refine W.seq_k fun K50 hK50 => ?_
  refine W.seq_k fun K51 hK51 => ?_
  refine W.regionT [(0, true), (1, true)] (by kernel_rfl) ?_
  refine Plan.move_int rfl rfl ?_
  refine Plan.cmpP (a := (number5.toNat : Int)) (b := ((0#32).toNat : Int)) (p := number5 = 0#32) rfl rfl rfl rfl icmp_eqU ?_
  refine Plan.nil ?_
  refine hK51 _ _ ?_; clear hK51
  by_cases hc52 : number5 = 0#32
  ·
    replace hR := ifT hR hc52
    refine W.condT (congrArg Value.bool (decide_eq_true hc52)) ?_
    refine W.seq_k fun K53 hK53 => ?_
    refine W.regionT [(0, true), (1, true), (2, true), (3, true), (4, true), (5, true), (6, true), (7, true), (8, true), (9, true), (10, true), (11, false), (12, true), (13, true), (14, true), (15, true)] (by kernel_rfl) ?_
    refine Plan.loadA h49 rfl rfl (.cons 0 rfl (.cons 1 rfl (.cons 2 rfl (.cons 3 rfl (.cons 4 rfl (.cons 5 rfl (.cons 6 rfl .nil))))))) FAgreeMeets.agg35 ?_
    refine Plan.buildP (ps := [(32, fun q => VU .u8 ((fun _ => 0#8) q)), (16, fun q => VU .u8 ((fun _ => 0#8) q)), (64, fun q => VU .u8 ((fun _ => 0#8) q)), (32, fun q => VU .u8 ((fun _ => 0#8) q)), (32, fun q => VU .u8 ((fun _ => 0#8) q)), (1, fun _ => VU .u32 (0#32)), (1, fun _ => VN 170)]) FAgreeMeets.pl35 (by decide) FAgreeMeets.z35 rfl rfl (.one [(32, fun q => VU .u8 ((fun _ => 0#8) q)), (16, fun q => VU .u8 ((fun _ => 0#8) q)), (64, fun q => VU .u8 ((fun _ => 0#8) q)), (32, fun q => VU .u8 ((fun _ => 0#8) q)), (32, fun q => VU .u8 ((fun _ => 0#8) q)), (1, fun _ => VU .u32 (0#32))] [] (fun _ => VN 0) rfl rfl .nil) ?_
    by_cases hc54 : ((eqB 32 x_40 (fun _ => 0#8)) && ((eqB 16 x_41 (fun _ => 0#8)) && ((eqB 64 x_42 (fun _ => 0#8)) && (((eqB 32 x_43 (fun _ => 0#8)) && ((eqB 32 x_44 (fun _ => 0#8)) && ((decide (x_45 = 0#32)) && true))) && ((decide ((x_46 : Nat) = 170)) && true))))) = true
    ·
      replace hR := ifT hR hc54
      refine Plan.eqStrV' (c := true) FAgreeMeets.eqg35 rfl rfl rfl (EqV.struct (d := 9999) (l := [(23, 0), (30, 32), (31, 48), (33, 112), (3, 177)]) FAgreeMeets.flds35 (.agg [] [(32, fun q => VU .u8 (x_40 q))] [(16, fun q => VU .u8 (x_41 q)), (64, fun q => VU .u8 (x_42 q)), (32, fun q => VU .u8 (x_43 q)), (32, fun q => VU .u8 (x_44 q)), (1, fun _ => VU .u32 x_45), (1, fun _ => VN x_46)] [] [(32, fun q => VU .u8 ((fun _ => 0#8) q))] [(16, fun q => VU .u8 ((fun _ => 0#8) q)), (64, fun q => VU .u8 ((fun _ => 0#8) q)), (32, fun q => VU .u8 ((fun _ => 0#8) q)), (32, fun q => VU .u8 ((fun _ => 0#8) q)), (1, fun _ => VU .u32 (0#32)), (1, fun _ => VN 170)] rfl rfl rfl rfl FAgreeMeets.agg23 FAgreeMeets.agg23 (EqV.arr (d := 9997) (F := x_40) (G := (fun _ => 0#8)) FAgreeMeets.arrI23) (.agg [(32, fun q => VU .u8 (x_40 q))] [(16, fun q => VU .u8 (x_41 q))] [(64, fun q => VU .u8 (x_42 q)), (32, fun q => VU .u8 (x_43 q)), (32, fun q => VU .u8 (x_44 q)), (1, fun _ => VU .u32 x_45), (1, fun _ => VN x_46)] [(32, fun q => VU .u8 ((fun _ => 0#8) q))] [(16, fun q => VU .u8 ((fun _ => 0#8) q))] [(64, fun q => VU .u8 ((fun _ => 0#8) q)), (32, fun q => VU .u8 ((fun _ => 0#8) q)), (32, fun q => VU .u8 ((fun _ => 0#8) q)), (1, fun _ => VU .u32 (0#32)), (1, fun _ => VN 170)] rfl rfl rfl rfl FAgreeMeets.agg30 FAgreeMeets.agg30 (EqV.arr (d := 9997) (F := x_41) (G := (fun _ => 0#8)) FAgreeMeets.arrI30) (.agg [(32, fun q => VU .u8 (x_40 q)), (16, fun q => VU .u8 (x_41 q))] [(64, fun q => VU .u8 (x_42 q))] [(32, fun q => VU .u8 (x_43 q)), (32, fun q => VU .u8 (x_44 q)), (1, fun _ => VU .u32 x_45), (1, fun _ => VN x_46)] [(32, fun q => VU .u8 ((fun _ => 0#8) q)), (16, fun q => VU .u8 ((fun _ => 0#8) q))] [(64, fun q => VU .u8 ((fun _ => 0#8) q))] [(32, fun q => VU .u8 ((fun _ => 0#8) q)), (32, fun q => VU .u8 ((fun _ => 0#8) q)), (1, fun _ => VU .u32 (0#32)), (1, fun _ => VN 170)] rfl rfl rfl rfl FAgreeMeets.agg31 FAgreeMeets.agg31 (EqV.arr (d := 9997) (F := x_42) (G := (fun _ => 0#8)) FAgreeMeets.arrI31) (.agg [(32, fun q => VU .u8 (x_40 q)), (16, fun q => VU .u8 (x_41 q)), (64, fun q => VU .u8 (x_42 q))] [(32, fun q => VU .u8 (x_43 q)), (32, fun q => VU .u8 (x_44 q)), (1, fun _ => VU .u32 x_45)] [(1, fun _ => VN x_46)] [(32, fun q => VU .u8 ((fun _ => 0#8) q)), (16, fun q => VU .u8 ((fun _ => 0#8) q)), (64, fun q => VU .u8 ((fun _ => 0#8) q))] [(32, fun q => VU .u8 ((fun _ => 0#8) q)), (32, fun q => VU .u8 ((fun _ => 0#8) q)), (1, fun _ => VU .u32 (0#32))] [(1, fun _ => VN 170)] rfl rfl rfl rfl FAgreeMeets.agg33 FAgreeMeets.agg33 (EqV.struct (d := 9998) (l := [(23, 0), (23, 32), (26, 64)]) FAgreeMeets.flds33 (.agg [] [(32, fun q => VU .u8 (x_43 q))] [(32, fun q => VU .u8 (x_44 q)), (1, fun _ => VU .u32 x_45)] [] [(32, fun q => VU .u8 ((fun _ => 0#8) q))] [(32, fun q => VU .u8 ((fun _ => 0#8) q)), (1, fun _ => VU .u32 (0#32))] rfl rfl rfl rfl FAgreeMeets.agg23 FAgreeMeets.agg23 (EqV.arr (d := 9996) (F := x_43) (G := (fun _ => 0#8)) FAgreeMeets.arrI23) (.agg [(32, fun q => VU .u8 (x_43 q))] [(32, fun q => VU .u8 (x_44 q))] [(1, fun _ => VU .u32 x_45)] [(32, fun q => VU .u8 ((fun _ => 0#8) q))] [(32, fun q => VU .u8 ((fun _ => 0#8) q))] [(1, fun _ => VU .u32 (0#32))] rfl rfl rfl rfl FAgreeMeets.agg23 FAgreeMeets.agg23 (EqV.arr (d := 9996) (F := x_44) (G := (fun _ => 0#8)) FAgreeMeets.arrI23) (.one [(32, fun q => VU .u8 (x_43 q)), (32, fun q => VU .u8 (x_44 q))] [] [(32, fun q => VU .u8 ((fun _ => 0#8) q)), (32, fun q => VU .u8 ((fun _ => 0#8) q))] [] (fun _ => VU .u32 x_45) (fun _ => VU .u32 (0#32)) rfl rfl rfl rfl FAgreeMeets.sc26 rfl rfl (EqV.u (d := 9997) (a := x_45) (b := (0#32)) FAgreeMeets.int26) .nil)))) (.one [(32, fun q => VU .u8 (x_40 q)), (16, fun q => VU .u8 (x_41 q)), (64, fun q => VU .u8 (x_42 q)), (32, fun q => VU .u8 (x_43 q)), (32, fun q => VU .u8 (x_44 q)), (1, fun _ => VU .u32 x_45)] [] [(32, fun q => VU .u8 ((fun _ => 0#8) q)), (16, fun q => VU .u8 ((fun _ => 0#8) q)), (64, fun q => VU .u8 ((fun _ => 0#8) q)), (32, fun q => VU .u8 ((fun _ => 0#8) q)), (32, fun q => VU .u8 ((fun _ => 0#8) q)), (1, fun _ => VU .u32 (0#32))] [] (fun _ => VN x_46) (fun _ => VN 170) rfl rfl rfl rfl FAgreeMeets.sc3 rfl rfl (EqV.nat (d := 9998) (a := x_46) (b := 170) FAgreeMeets.int3) .nil)))))) hc54 ?_
      refine Plan.move_bool rfl rfl ?_
      refine Plan.loadA h49 rfl rfl (.cons 15 rfl (.cons 16 rfl .nil)) FAgreeMeets.agg25 ?_
      refine Plan.loadA h49 rfl rfl (.cons 17 rfl (.cons 18 rfl .nil)) FAgreeMeets.agg25 ?_
      refine Plan.fieldAddr 32 FAgreeMeets.fld25_1 rfl rfl ?_
      refine Plan.loadA1 h49 12 rfl rfl rfl FAgreeMeets.agg23 ?_
      refine Plan.fieldAddr 32 FAgreeMeets.fld25_1 rfl rfl ?_
      refine Plan.loadA1 h49 14 rfl rfl rfl FAgreeMeets.agg23 ?_
      refine Plan.buildP (ps := [(32, fun q => VU .u8 (x_16 q)), (32, fun q => VU .u8 (x_21 q)), (1, fun _ => VU .u32 (0#32))]) FAgreeMeets.pl33 (by decide) FAgreeMeets.z33 rfl rfl (.agg [] [(32, fun q => VU .u8 ((fun _ => 0#8) q))] [(32, fun q => VU .u8 ((fun _ => 0#8) q)), (1, fun _ => VU .u32 (0#32))] [(32, fun q => VU .u8 (x_16 q))] rfl rfl (.agg [(32, fun q => VU .u8 (x_16 q))] [(32, fun q => VU .u8 ((fun _ => 0#8) q))] [(1, fun _ => VU .u32 (0#32))] [(32, fun q => VU .u8 (x_21 q))] rfl rfl .nil)) ?_
      obtain ⟨x_56, x_57, x_58, x_59, x_60, x_61, x_62, hr55, hR⟩ := hR
      refine Plan.call (vs := [AG [(32, fun q => VU .u8 (x_25 q)), (32, fun q => VU .u8 (x_26 q))], AG [(32, fun q => VU .u8 (x_30 q)), (32, fun q => VU .u8 (x_31 q))], AG [(32, fun q => VU .u8 (x_16 q)), (32, fun q => VU .u8 (x_21 q)), (1, fun _ => VU .u32 (0#32))]]) rfl FAgreeMeets.call12 rfl (lethelaw17_meet_ok (iG0 := iG0 + 19) hG0 (iG1 := iG1 + 19) hG1 (iG3 := iG3 + 19) hG3 hr55 h49) ?_
      rintro _ w63 ⟨rfl, h63⟩
      refine ⟨_, rfl, .inl ⟨PIn.keep (PIn.cons 14 rfl (PIn.cons 12 rfl (PIn.parts (.cons 17 rfl (.cons 18 rfl .nil)) (PIn.parts (.cons 15 rfl (.cons 16 rfl .nil)) (PIn.parts (.cons 0 rfl (.cons 1 rfl (.cons 2 rfl (.cons 3 rfl (.cons 4 rfl (.cons 5 rfl (.cons 6 rfl .nil))))))) PIn.nil))))) h63, ?_⟩⟩
      refine Plan.buildP (ps := [(32, fun q => VU .u8 ((fun _ => 0#8) q)), (16, fun q => VU .u8 ((fun _ => 0#8) q)), (64, fun q => VU .u8 ((fun _ => 0#8) q)), (32, fun q => VU .u8 ((fun _ => 0#8) q)), (32, fun q => VU .u8 ((fun _ => 0#8) q)), (1, fun _ => VU .u32 (0#32)), (1, fun _ => VN 170)]) FAgreeMeets.pl35 (by decide) FAgreeMeets.z35 rfl rfl (.one [(32, fun q => VU .u8 ((fun _ => 0#8) q)), (16, fun q => VU .u8 ((fun _ => 0#8) q)), (64, fun q => VU .u8 ((fun _ => 0#8) q)), (32, fun q => VU .u8 ((fun _ => 0#8) q)), (32, fun q => VU .u8 ((fun _ => 0#8) q)), (1, fun _ => VU .u32 (0#32))] [] (fun _ => VN 0) rfl rfl .nil) ?_
      refine Plan.eqStrV' (c := ((eqB 32 x_56 (fun _ => 0#8)) && ((eqB 16 x_57 (fun _ => 0#8)) && ((eqB 64 x_58 (fun _ => 0#8)) && (((eqB 32 x_59 (fun _ => 0#8)) && ((eqB 32 x_60 (fun _ => 0#8)) && ((decide (x_61 = 0#32)) && true))) && ((decide ((x_62 : Nat) = 170)) && true)))))) FAgreeMeets.eqg35 rfl rfl rfl (EqV.struct (d := 9999) (l := [(23, 0), (30, 32), (31, 48), (33, 112), (3, 177)]) FAgreeMeets.flds35 (.agg [] [(32, fun q => VU .u8 (x_56 q))] [(16, fun q => VU .u8 (x_57 q)), (64, fun q => VU .u8 (x_58 q)), (32, fun q => VU .u8 (x_59 q)), (32, fun q => VU .u8 (x_60 q)), (1, fun _ => VU .u32 x_61), (1, fun _ => VN x_62)] [] [(32, fun q => VU .u8 ((fun _ => 0#8) q))] [(16, fun q => VU .u8 ((fun _ => 0#8) q)), (64, fun q => VU .u8 ((fun _ => 0#8) q)), (32, fun q => VU .u8 ((fun _ => 0#8) q)), (32, fun q => VU .u8 ((fun _ => 0#8) q)), (1, fun _ => VU .u32 (0#32)), (1, fun _ => VN 170)] rfl rfl rfl rfl FAgreeMeets.agg23 FAgreeMeets.agg23 (EqV.arr (d := 9997) (F := x_56) (G := (fun _ => 0#8)) FAgreeMeets.arrI23) (.agg [(32, fun q => VU .u8 (x_56 q))] [(16, fun q => VU .u8 (x_57 q))] [(64, fun q => VU .u8 (x_58 q)), (32, fun q => VU .u8 (x_59 q)), (32, fun q => VU .u8 (x_60 q)), (1, fun _ => VU .u32 x_61), (1, fun _ => VN x_62)] [(32, fun q => VU .u8 ((fun _ => 0#8) q))] [(16, fun q => VU .u8 ((fun _ => 0#8) q))] [(64, fun q => VU .u8 ((fun _ => 0#8) q)), (32, fun q => VU .u8 ((fun _ => 0#8) q)), (32, fun q => VU .u8 ((fun _ => 0#8) q)), (1, fun _ => VU .u32 (0#32)), (1, fun _ => VN 170)] rfl rfl rfl rfl FAgreeMeets.agg30 FAgreeMeets.agg30 (EqV.arr (d := 9997) (F := x_57) (G := (fun _ => 0#8)) FAgreeMeets.arrI30) (.agg [(32, fun q => VU .u8 (x_56 q)), (16, fun q => VU .u8 (x_57 q))] [(64, fun q => VU .u8 (x_58 q))] [(32, fun q => VU .u8 (x_59 q)), (32, fun q => VU .u8 (x_60 q)), (1, fun _ => VU .u32 x_61), (1, fun _ => VN x_62)] [(32, fun q => VU .u8 ((fun _ => 0#8) q)), (16, fun q => VU .u8 ((fun _ => 0#8) q))] [(64, fun q => VU .u8 ((fun _ => 0#8) q))] [(32, fun q => VU .u8 ((fun _ => 0#8) q)), (32, fun q => VU .u8 ((fun _ => 0#8) q)), (1, fun _ => VU .u32 (0#32)), (1, fun _ => VN 170)] rfl rfl rfl rfl FAgreeMeets.agg31 FAgreeMeets.agg31 (EqV.arr (d := 9997) (F := x_58) (G := (fun _ => 0#8)) FAgreeMeets.arrI31) (.agg [(32, fun q => VU .u8 (x_56 q)), (16, fun q => VU .u8 (x_57 q)), (64, fun q => VU .u8 (x_58 q))] [(32, fun q => VU .u8 (x_59 q)), (32, fun q => VU .u8 (x_60 q)), (1, fun _ => VU .u32 x_61)] [(1, fun _ => VN x_62)] [(32, fun q => VU .u8 ((fun _ => 0#8) q)), (16, fun q => VU .u8 ((fun _ => 0#8) q)), (64, fun q => VU .u8 ((fun _ => 0#8) q))] [(32, fun q => VU .u8 ((fun _ => 0#8) q)), (32, fun q => VU .u8 ((fun _ => 0#8) q)), (1, fun _ => VU .u32 (0#32))] [(1, fun _ => VN 170)] rfl rfl rfl rfl FAgreeMeets.agg33 FAgreeMeets.agg33 (EqV.struct (d := 9998) (l := [(23, 0), (23, 32), (26, 64)]) FAgreeMeets.flds33 (.agg [] [(32, fun q => VU .u8 (x_59 q))] [(32, fun q => VU .u8 (x_60 q)), (1, fun _ => VU .u32 x_61)] [] [(32, fun q => VU .u8 ((fun _ => 0#8) q))] [(32, fun q => VU .u8 ((fun _ => 0#8) q)), (1, fun _ => VU .u32 (0#32))] rfl rfl rfl rfl FAgreeMeets.agg23 FAgreeMeets.agg23 (EqV.arr (d := 9996) (F := x_59) (G := (fun _ => 0#8)) FAgreeMeets.arrI23) (.agg [(32, fun q => VU .u8 (x_59 q))] [(32, fun q => VU .u8 (x_60 q))] [(1, fun _ => VU .u32 x_61)] [(32, fun q => VU .u8 ((fun _ => 0#8) q))] [(32, fun q => VU .u8 ((fun _ => 0#8) q))] [(1, fun _ => VU .u32 (0#32))] rfl rfl rfl rfl FAgreeMeets.agg23 FAgreeMeets.agg23 (EqV.arr (d := 9996) (F := x_60) (G := (fun _ => 0#8)) FAgreeMeets.arrI23) (.one [(32, fun q => VU .u8 (x_59 q)), (32, fun q => VU .u8 (x_60 q))] [] [(32, fun q => VU .u8 ((fun _ => 0#8) q)), (32, fun q => VU .u8 ((fun _ => 0#8) q))] [] (fun _ => VU .u32 x_61) (fun _ => VU .u32 (0#32)) rfl rfl rfl rfl FAgreeMeets.sc26 rfl rfl (EqV.u (d := 9997) (a := x_61) (b := (0#32)) FAgreeMeets.int26) .nil)))) (.one [(32, fun q => VU .u8 (x_56 q)), (16, fun q => VU .u8 (x_57 q)), (64, fun q => VU .u8 (x_58 q)), (32, fun q => VU .u8 (x_59 q)), (32, fun q => VU .u8 (x_60 q)), (1, fun _ => VU .u32 x_61)] [] [(32, fun q => VU .u8 ((fun _ => 0#8) q)), (16, fun q => VU .u8 ((fun _ => 0#8) q)), (64, fun q => VU .u8 ((fun _ => 0#8) q)), (32, fun q => VU .u8 ((fun _ => 0#8) q)), (32, fun q => VU .u8 ((fun _ => 0#8) q)), (1, fun _ => VU .u32 (0#32))] [] (fun _ => VN x_62) (fun _ => VN 170) rfl rfl rfl rfl FAgreeMeets.sc3 rfl rfl (EqV.nat (d := 9998) (a := x_62) (b := 170) FAgreeMeets.int3) .nil)))))) rfl ?_
      refine Plan.pickTb rfl rfl rfl ?_
      refine Plan.assign_bool rfl rfl ?_
      refine Plan.nil ?_
      refine hK53 _ _ ?_; clear hK53
      refine W.ret (thenR_ret (finR_ret ?_))
      have h64 := St.pickT (C := [_, _, _, _, _, _, _, _, _, _, _, _, _, _, _, _, _, _, _]) h63 [] (by decide)
      simp only [pick, List.filterMap_cons, List.filterMap_nil, List.getElem?_cons_zero, List.getElem?_cons_succ, List.cons_append, List.nil_append] at h64
      subst r
      refine RetOk.mk (.tmp_bool rfl .nil) ?_
      exact ⟨rfl, h64⟩
    ·
      replace hR := ifF hR hc54
      refine Plan.eqStrV' (c := false) FAgreeMeets.eqg35 rfl rfl rfl (EqV.struct (d := 9999) (l := [(23, 0), (30, 32), (31, 48), (33, 112), (3, 177)]) FAgreeMeets.flds35 (.agg [] [(32, fun q => VU .u8 (x_40 q))] [(16, fun q => VU .u8 (x_41 q)), (64, fun q => VU .u8 (x_42 q)), (32, fun q => VU .u8 (x_43 q)), (32, fun q => VU .u8 (x_44 q)), (1, fun _ => VU .u32 x_45), (1, fun _ => VN x_46)] [] [(32, fun q => VU .u8 ((fun _ => 0#8) q))] [(16, fun q => VU .u8 ((fun _ => 0#8) q)), (64, fun q => VU .u8 ((fun _ => 0#8) q)), (32, fun q => VU .u8 ((fun _ => 0#8) q)), (32, fun q => VU .u8 ((fun _ => 0#8) q)), (1, fun _ => VU .u32 (0#32)), (1, fun _ => VN 170)] rfl rfl rfl rfl FAgreeMeets.agg23 FAgreeMeets.agg23 (EqV.arr (d := 9997) (F := x_40) (G := (fun _ => 0#8)) FAgreeMeets.arrI23) (.agg [(32, fun q => VU .u8 (x_40 q))] [(16, fun q => VU .u8 (x_41 q))] [(64, fun q => VU .u8 (x_42 q)), (32, fun q => VU .u8 (x_43 q)), (32, fun q => VU .u8 (x_44 q)), (1, fun _ => VU .u32 x_45), (1, fun _ => VN x_46)] [(32, fun q => VU .u8 ((fun _ => 0#8) q))] [(16, fun q => VU .u8 ((fun _ => 0#8) q))] [(64, fun q => VU .u8 ((fun _ => 0#8) q)), (32, fun q => VU .u8 ((fun _ => 0#8) q)), (32, fun q => VU .u8 ((fun _ => 0#8) q)), (1, fun _ => VU .u32 (0#32)), (1, fun _ => VN 170)] rfl rfl rfl rfl FAgreeMeets.agg30 FAgreeMeets.agg30 (EqV.arr (d := 9997) (F := x_41) (G := (fun _ => 0#8)) FAgreeMeets.arrI30) (.agg [(32, fun q => VU .u8 (x_40 q)), (16, fun q => VU .u8 (x_41 q))] [(64, fun q => VU .u8 (x_42 q))] [(32, fun q => VU .u8 (x_43 q)), (32, fun q => VU .u8 (x_44 q)), (1, fun _ => VU .u32 x_45), (1, fun _ => VN x_46)] [(32, fun q => VU .u8 ((fun _ => 0#8) q)), (16, fun q => VU .u8 ((fun _ => 0#8) q))] [(64, fun q => VU .u8 ((fun _ => 0#8) q))] [(32, fun q => VU .u8 ((fun _ => 0#8) q)), (32, fun q => VU .u8 ((fun _ => 0#8) q)), (1, fun _ => VU .u32 (0#32)), (1, fun _ => VN 170)] rfl rfl rfl rfl FAgreeMeets.agg31 FAgreeMeets.agg31 (EqV.arr (d := 9997) (F := x_42) (G := (fun _ => 0#8)) FAgreeMeets.arrI31) (.agg [(32, fun q => VU .u8 (x_40 q)), (16, fun q => VU .u8 (x_41 q)), (64, fun q => VU .u8 (x_42 q))] [(32, fun q => VU .u8 (x_43 q)), (32, fun q => VU .u8 (x_44 q)), (1, fun _ => VU .u32 x_45)] [(1, fun _ => VN x_46)] [(32, fun q => VU .u8 ((fun _ => 0#8) q)), (16, fun q => VU .u8 ((fun _ => 0#8) q)), (64, fun q => VU .u8 ((fun _ => 0#8) q))] [(32, fun q => VU .u8 ((fun _ => 0#8) q)), (32, fun q => VU .u8 ((fun _ => 0#8) q)), (1, fun _ => VU .u32 (0#32))] [(1, fun _ => VN 170)] rfl rfl rfl rfl FAgreeMeets.agg33 FAgreeMeets.agg33 (EqV.struct (d := 9998) (l := [(23, 0), (23, 32), (26, 64)]) FAgreeMeets.flds33 (.agg [] [(32, fun q => VU .u8 (x_43 q))] [(32, fun q => VU .u8 (x_44 q)), (1, fun _ => VU .u32 x_45)] [] [(32, fun q => VU .u8 ((fun _ => 0#8) q))] [(32, fun q => VU .u8 ((fun _ => 0#8) q)), (1, fun _ => VU .u32 (0#32))] rfl rfl rfl rfl FAgreeMeets.agg23 FAgreeMeets.agg23 (EqV.arr (d := 9996) (F := x_43) (G := (fun _ => 0#8)) FAgreeMeets.arrI23) (.agg [(32, fun q => VU .u8 (x_43 q))] [(32, fun q => VU .u8 (x_44 q))] [(1, fun _ => VU .u32 x_45)] [(32, fun q => VU .u8 ((fun _ => 0#8) q))] [(32, fun q => VU .u8 ((fun _ => 0#8) q))] [(1, fun _ => VU .u32 (0#32))] rfl rfl rfl rfl FAgreeMeets.agg23 FAgreeMeets.agg23 (EqV.arr (d := 9996) (F := x_44) (G := (fun _ => 0#8)) FAgreeMeets.arrI23) (.one [(32, fun q => VU .u8 (x_43 q)), (32, fun q => VU .u8 (x_44 q))] [] [(32, fun q => VU .u8 ((fun _ => 0#8) q)), (32, fun q => VU .u8 ((fun _ => 0#8) q))] [] (fun _ => VU .u32 x_45) (fun _ => VU .u32 (0#32)) rfl rfl rfl rfl FAgreeMeets.sc26 rfl rfl (EqV.u (d := 9997) (a := x_45) (b := (0#32)) FAgreeMeets.int26) .nil)))) (.one [(32, fun q => VU .u8 (x_40 q)), (16, fun q => VU .u8 (x_41 q)), (64, fun q => VU .u8 (x_42 q)), (32, fun q => VU .u8 (x_43 q)), (32, fun q => VU .u8 (x_44 q)), (1, fun _ => VU .u32 x_45)] [] [(32, fun q => VU .u8 ((fun _ => 0#8) q)), (16, fun q => VU .u8 ((fun _ => 0#8) q)), (64, fun q => VU .u8 ((fun _ => 0#8) q)), (32, fun q => VU .u8 ((fun _ => 0#8) q)), (32, fun q => VU .u8 ((fun _ => 0#8) q)), (1, fun _ => VU .u32 (0#32))] [] (fun _ => VN x_46) (fun _ => VN 170) rfl rfl rfl rfl FAgreeMeets.sc3 rfl rfl (EqV.nat (d := 9998) (a := x_46) (b := 170) FAgreeMeets.int3) .nil)))))) (Bool.eq_false_iff.2 hc54) ?_
      refine Plan.move_bool rfl rfl ?_
      refine Plan.passed rfl ?_
      refine Plan.passed rfl ?_
      refine Plan.passed rfl ?_
      refine Plan.passed rfl ?_
      refine Plan.passed rfl ?_
      refine Plan.passed rfl ?_
      refine Plan.passed rfl ?_
      refine Plan.passed rfl ?_
      refine Plan.passed rfl ?_
      refine Plan.passed rfl ?_
      refine Plan.pickFb rfl rfl rfl ?_
      refine Plan.assign_bool rfl rfl ?_
      refine Plan.nil ?_
      refine hK53 _ _ ?_; clear hK53
      refine W.ret (thenR_ret (finR_ret ?_))
      have h65 := St.pickT (C := [_, _, _, _, _, _, _, _, _, _, _, _, _, _, _, _, _, _, _]) h49 [] (by decide)
      simp only [pick, List.filterMap_cons, List.filterMap_nil, List.getElem?_cons_zero, List.getElem?_cons_succ, List.cons_append, List.nil_append] at h65
      subst r
      refine RetOk.mk (.tmp_bool rfl .nil) ?_
      exact ⟨rfl, h65⟩
  ·
    replace hR := ifF hR hc52
    refine W.condF (congrArg Value.bool (decide_eq_false hc52)) ?_
    refine W.skip ?_
    refine hK50 _ _ ?_; clear hK50
    refine W.seq_k fun K66 hK66 => ?_
    refine W.regionT [(0, true), (1, true), (2, true), (3, true), (4, true), (5, true), (6, false), (7, false)] (by kernel_rfl) ?_
    refine Plan.fieldAddr 32 FAgreeMeets.fld25_1 rfl rfl ?_
    refine Plan.loadA1 h49 12 rfl rfl rfl FAgreeMeets.agg23 ?_
    refine Plan.fieldAddr 32 FAgreeMeets.fld25_1 rfl rfl ?_
    refine Plan.loadA1 h49 14 rfl rfl rfl FAgreeMeets.agg23 ?_
    refine Plan.move_int rfl rfl ?_
    refine Plan.buildP (ps := [(32, fun q => VU .u8 (x_16 q)), (32, fun q => VU .u8 (x_21 q)), (1, fun _ => VU .u32 number5)]) FAgreeMeets.pl33 (by decide) FAgreeMeets.z33 rfl rfl (.agg [] [(32, fun q => VU .u8 ((fun _ => 0#8) q))] [(32, fun q => VU .u8 ((fun _ => 0#8) q)), (1, fun _ => VU .u32 (0#32))] [(32, fun q => VU .u8 (x_16 q))] rfl rfl (.agg [(32, fun q => VU .u8 (x_16 q))] [(32, fun q => VU .u8 ((fun _ => 0#8) q))] [(1, fun _ => VU .u32 (0#32))] [(32, fun q => VU .u8 (x_21 q))] rfl rfl (.one [(32, fun q => VU .u8 (x_16 q)), (32, fun q => VU .u8 (x_21 q))] [] (fun _ => VU .u32 (0#32)) rfl rfl .nil))) ?_
    refine Plan.alloc h49 rfl FAgreeMeets.z33 (PIn.cons 14 rfl (PIn.cons 12 rfl PIn.nil)) fun b67 w67 hb67 h67 => ?_
    simp only [rngs, Nat.zero_add, Nat.reduceAdd, List.cons_append, List.nil_append] at h67
    refine Plan.storeP (ps := [(32, fun q => VU .u8 (x_16 q)), (32, fun q => VU .u8 (x_21 q)), (1, fun _ => VU .u32 number5)]) h67 rfl rfl rfl (.cons 0 rfl (.cons 1 rfl (.cons 2 rfl .nil))) ⟨fun _ _ => rfl, fun _ _ => rfl, fun _ _ => rfl, trivial⟩ FAgreeMeets.sz33 (EffO.wait rfl) fun w68 h68 => ?_
    simp only [List.cons_append, List.nil_append, List.set_cons_zero, List.set_cons_succ] at h68
    refine Plan.nil ?_
    refine hK66 _ _ ?_; clear hK66
    refine W.seq_k fun K69 hK69 => ?_
    refine W.regionT [(0, true), (1, true), (2, true), (3, false), (4, false), (5, false)] (by kernel_rfl) ?_
    refine Plan.loadA h68 rfl rfl (.cons 18 rfl (.cons 19 rfl .nil)) FAgreeMeets.agg25 ?_
    refine Plan.loadA h68 rfl rfl (.cons 20 rfl (.cons 21 rfl .nil)) FAgreeMeets.agg25 ?_
    refine Plan.loadA h68 rfl rfl (.cons 0 rfl (.cons 1 rfl (.cons 2 rfl .nil))) FAgreeMeets.agg33 ?_
    obtain ⟨x_71, x_72, x_73, x_74, x_75, x_76, x_77, hr70, hR⟩ := hR
    refine Plan.call (vs := [AG [(32, fun q => VU .u8 (x_25 q)), (32, fun q => VU .u8 (x_26 q))], AG [(32, fun q => VU .u8 (x_30 q)), (32, fun q => VU .u8 (x_31 q))], AG [(32, fun q => VU .u8 (x_16 q)), (32, fun q => VU .u8 (x_21 q)), (1, fun _ => VU .u32 number5)]]) rfl FAgreeMeets.call12 rfl (lethelaw17_meet_ok (iG0 := iG0 + 22) hG0 (iG1 := iG1 + 22) hG1 (iG3 := iG3 + 22) hG3 hr70 h68) ?_
    rintro _ w78 ⟨rfl, h78⟩
    refine ⟨_, rfl, .inr ⟨rfl, ?_⟩⟩
    refine Plan.alloc h78 rfl FAgreeMeets.z35 PIn.nil fun b79 w79 hb79 h79 => ?_
    simp only [rngs, Nat.zero_add, Nat.reduceAdd, List.cons_append, List.nil_append] at h79
    refine Plan.storeP (ps := [(32, fun q => VU .u8 (x_71 q)), (16, fun q => VU .u8 (x_72 q)), (64, fun q => VU .u8 (x_73 q)), (32, fun q => VU .u8 (x_74 q)), (32, fun q => VU .u8 (x_75 q)), (1, fun _ => VU .u32 x_76), (1, fun _ => VN x_77)]) h79 rfl rfl rfl (.cons 0 rfl (.cons 1 rfl (.cons 2 rfl (.cons 3 rfl (.cons 4 rfl (.cons 5 rfl (.cons 6 rfl .nil))))))) ⟨fun _ _ => rfl, fun _ _ => rfl, fun _ _ => rfl, fun _ _ => rfl, fun _ _ => rfl, fun _ _ => rfl, fun _ _ => rfl, trivial⟩ FAgreeMeets.sz35 (EffO.keep PIn.nil) fun w80 h80 => ?_
    simp only [List.cons_append, List.nil_append, List.set_cons_zero, List.set_cons_succ] at h80
    refine Plan.nil ?_
    refine hK69 _ _ ?_; clear hK69
    refine W.seq_k fun K81 hK81 => ?_
    refine W.seq_k fun K89 hK89 => ?_
    refine W.regionT [(0, true), (1, true), (2, true), (3, true), (4, true), (5, true), (6, true), (7, true)] (by kernel_rfl) ?_
    refine Plan.fieldAddr 177 FAgreeMeets.fld35_4 rfl rfl ?_
    refine Plan.load0 h80 16 rfl rfl rfl (by omega) FAgreeMeets.sc3 ?_
    by_cases hc90 : x_46 ≠ 0
    ·
      replace hR := ifT hR hc90
      refine Plan.cmpV (a := (((x_46 : Nat) : Int) : Int)) (b := (0 : Int)) (p := x_46 ≠ 0) (v := true) rfl rfl rfl rfl icmp_neN (decide_eq_true hc90) ?_
      refine Plan.move_bool rfl rfl ?_
      refine Plan.passed rfl ?_
      refine Plan.passed rfl ?_
      refine Plan.passed rfl ?_
      refine Plan.pickTb rfl rfl rfl ?_
      refine Plan.nil ?_
      refine hK89 _ _ ?_; clear hK89
      refine W.condT rfl ?_
      refine W.seq_k fun K91 hK91 => ?_
      refine W.regionT [(0, true), (1, true), (2, true), (3, true), (4, true), (5, true), (6, true), (7, true), (8, true), (9, true), (10, true)] (by kernel_rfl) ?_
      refine Plan.fieldAddr 177 FAgreeMeets.fld35_4 rfl rfl ?_
      refine Plan.load0 h80 16 rfl rfl rfl (by omega) FAgreeMeets.sc3 ?_
      refine Plan.fieldAddr 177 FAgreeMeets.fld35_4 rfl rfl ?_
      refine Plan.load0 h80 6 rfl rfl rfl (by omega) FAgreeMeets.sc3 ?_
      by_cases hc92 : x_46 = x_77
      ·
        replace hR := ifT hR hc92
        refine Plan.cmpV (a := (((x_46 : Nat) : Int) : Int)) (b := (((x_77 : Nat) : Int) : Int)) (p := x_46 = x_77) (v := true) rfl rfl rfl rfl icmp_eqN (decide_eq_true hc92) ?_
        refine Plan.move_bool rfl rfl ?_
        refine Plan.fieldAddr 177 FAgreeMeets.fld35_4 rfl rfl ?_
        refine Plan.load0 h80 16 rfl rfl rfl (by omega) FAgreeMeets.sc3 ?_
        refine Plan.cmpP (a := (((x_46 : Nat) : Int) : Int)) (b := (70 : Int)) (p := x_46 = 70) rfl rfl rfl rfl icmp_eqN ?_
        refine Plan.pickTb rfl rfl rfl ?_
        refine Plan.assign_bool rfl rfl ?_
        refine Plan.nil ?_
        refine hK91 _ _ ?_; clear hK91
        refine W.ret (thenR_ret (finR_ret ?_))
        have h93 := St.pickT (C := [_, _, _, _, _, _, _, _, _, _, _, _, _, _, _, _, _, _, _, _, _, _, _, _, _, _, _, _, _]) h80 [] (by decide)
        simp only [pick, List.filterMap_cons, List.filterMap_nil, List.getElem?_cons_zero, List.getElem?_cons_succ, List.cons_append, List.nil_append] at h93
        subst r
        refine RetOk.mk (.tmp_bool rfl .nil) ?_
        exact ⟨rfl, h93⟩
      ·
        replace hR := ifF hR hc92
        refine Plan.cmpV (a := (((x_46 : Nat) : Int) : Int)) (b := (((x_77 : Nat) : Int) : Int)) (p := x_46 = x_77) (v := false) rfl rfl rfl rfl icmp_eqN (decide_eq_false hc92) ?_
        refine Plan.move_bool rfl rfl ?_
        refine Plan.passed rfl ?_
        refine Plan.passed rfl ?_
        refine Plan.passed rfl ?_
        refine Plan.pickFb rfl rfl rfl ?_
        refine Plan.assign_bool rfl rfl ?_
        refine Plan.nil ?_
        refine hK91 _ _ ?_; clear hK91
        refine W.ret (thenR_ret (finR_ret ?_))
        have h94 := St.pickT (C := [_, _, _, _, _, _, _, _, _, _, _, _, _, _, _, _, _, _, _, _, _, _, _, _, _, _, _, _, _]) h80 [] (by decide)
        simp only [pick, List.filterMap_cons, List.filterMap_nil, List.getElem?_cons_zero, List.getElem?_cons_succ, List.cons_append, List.nil_append] at h94
        subst r
        refine RetOk.mk (.tmp_bool rfl .nil) ?_
        exact ⟨rfl, h94⟩
    ·
      replace hR := ifF hR hc90
      refine Plan.cmpV (a := (((x_46 : Nat) : Int) : Int)) (b := (0 : Int)) (p := x_46 ≠ 0) (v := false) rfl rfl rfl rfl icmp_neN (decide_eq_false hc90) ?_
      refine Plan.move_bool rfl rfl ?_
      refine Plan.fieldAddr 177 FAgreeMeets.fld35_4 rfl rfl ?_
      refine Plan.load0 h80 6 rfl rfl rfl (by omega) FAgreeMeets.sc3 ?_
      refine Plan.cmpP (a := (((x_77 : Nat) : Int) : Int)) (b := (0 : Int)) (p := x_77 ≠ 0) rfl rfl rfl rfl icmp_neN ?_
      refine Plan.pickFb rfl rfl rfl ?_
      refine Plan.nil ?_
      refine hK89 _ _ ?_; clear hK89
      by_cases hc95 : x_77 ≠ 0
      ·
        replace hR := ifT hR hc95
        refine W.condT (congrArg Value.bool (decide_eq_true hc95)) ?_
        refine W.seq_k fun K96 hK96 => ?_
        refine W.regionT [(0, true), (1, true), (2, true), (3, true), (4, true), (5, true), (6, true), (7, true), (8, true), (9, true), (10, true)] (by kernel_rfl) ?_
        refine Plan.fieldAddr 177 FAgreeMeets.fld35_4 rfl rfl ?_
        refine Plan.load0 h80 16 rfl rfl rfl (by omega) FAgreeMeets.sc3 ?_
        refine Plan.fieldAddr 177 FAgreeMeets.fld35_4 rfl rfl ?_
        refine Plan.load0 h80 6 rfl rfl rfl (by omega) FAgreeMeets.sc3 ?_
        by_cases hc97 : x_46 = x_77
        ·
          replace hR := ifT hR hc97
          refine Plan.cmpV (a := (((x_46 : Nat) : Int) : Int)) (b := (((x_77 : Nat) : Int) : Int)) (p := x_46 = x_77) (v := true) rfl rfl rfl rfl icmp_eqN (decide_eq_true hc97) ?_
          refine Plan.move_bool rfl rfl ?_
          refine Plan.fieldAddr 177 FAgreeMeets.fld35_4 rfl rfl ?_
          refine Plan.load0 h80 16 rfl rfl rfl (by omega) FAgreeMeets.sc3 ?_
          refine Plan.cmpP (a := (((x_46 : Nat) : Int) : Int)) (b := (70 : Int)) (p := x_46 = 70) rfl rfl rfl rfl icmp_eqN ?_
          refine Plan.pickTb rfl rfl rfl ?_
          refine Plan.assign_bool rfl rfl ?_
          refine Plan.nil ?_
          refine hK96 _ _ ?_; clear hK96
          refine W.ret (thenR_ret (finR_ret ?_))
          have h98 := St.pickT (C := [_, _, _, _, _, _, _, _, _, _, _, _, _, _, _, _, _, _, _, _, _, _, _, _, _, _, _, _, _]) h80 [] (by decide)
          simp only [pick, List.filterMap_cons, List.filterMap_nil, List.getElem?_cons_zero, List.getElem?_cons_succ, List.cons_append, List.nil_append] at h98
          subst r
          refine RetOk.mk (.tmp_bool rfl .nil) ?_
          exact ⟨rfl, h98⟩
        ·
          replace hR := ifF hR hc97
          refine Plan.cmpV (a := (((x_46 : Nat) : Int) : Int)) (b := (((x_77 : Nat) : Int) : Int)) (p := x_46 = x_77) (v := false) rfl rfl rfl rfl icmp_eqN (decide_eq_false hc97) ?_
          refine Plan.move_bool rfl rfl ?_
          refine Plan.passed rfl ?_
          refine Plan.passed rfl ?_
          refine Plan.passed rfl ?_
          refine Plan.pickFb rfl rfl rfl ?_
          refine Plan.assign_bool rfl rfl ?_
          refine Plan.nil ?_
          refine hK96 _ _ ?_; clear hK96
          refine W.ret (thenR_ret (finR_ret ?_))
          have h99 := St.pickT (C := [_, _, _, _, _, _, _, _, _, _, _, _, _, _, _, _, _, _, _, _, _, _, _, _, _, _, _, _, _]) h80 [] (by decide)
          simp only [pick, List.filterMap_cons, List.filterMap_nil, List.getElem?_cons_zero, List.getElem?_cons_succ, List.cons_append, List.nil_append] at h99
          subst r
          refine RetOk.mk (.tmp_bool rfl .nil) ?_
          exact ⟨rfl, h99⟩
      ·
        replace hR := ifF hR hc95
        refine W.condF (congrArg Value.bool (decide_eq_false hc95)) ?_
        refine W.skip ?_
        refine hK81 _ _ ?_; clear hK81
        refine W.seq_k fun K100 hK100 => ?_
        refine W.regionD FAgreeMeets.mixed [(0, true), (1, true), (2, true), (3, true), (4, true), (5, true), (6, true), (7, true), (8, true), (9, true), (10, true), (11, true), (12, true), (13, true), (14, true), (15, true), (16, true), (17, true), (18, true), (19, true), (20, true), (21, true), (22, true), (23, true), (24, true), (25, true), (26, true), (27, true), (28, true), (29, true), (30, true), (31, true), (32, false), (33, true), (34, true), (35, true)] (by kernel_rfl) ?_
        have h101 := h80.drew
        refine Plan.fieldAddr 112 FAgreeMeets.fld35_3 rfl rfl ?_
        refine Plan.loadA h101 rfl rfl (.cons 13 rfl (.cons 14 rfl (.cons 15 rfl .nil))) FAgreeMeets.agg33 ?_
        refine Plan.loadA h101 rfl rfl (.cons 7 rfl (.cons 8 rfl (.cons 9 rfl .nil))) FAgreeMeets.agg33 ?_
        by_cases hc102 : ((eqB 32 x_43 x_16) && ((eqB 32 x_44 x_21) && ((decide (x_45 = number5)) && true))) = true
        ·
          replace hR := ifT hR hc102
          refine Plan.eqStrV' (c := true) FAgreeMeets.eqg33 rfl rfl rfl (EqV.struct (d := 9999) (l := [(23, 0), (23, 32), (26, 64)]) FAgreeMeets.flds33 (.agg [] [(32, fun q => VU .u8 (x_43 q))] [(32, fun q => VU .u8 (x_44 q)), (1, fun _ => VU .u32 x_45)] [] [(32, fun q => VU .u8 (x_16 q))] [(32, fun q => VU .u8 (x_21 q)), (1, fun _ => VU .u32 number5)] rfl rfl rfl rfl FAgreeMeets.agg23 FAgreeMeets.agg23 (EqV.arr (d := 9997) (F := x_43) (G := x_16) FAgreeMeets.arrI23) (.agg [(32, fun q => VU .u8 (x_43 q))] [(32, fun q => VU .u8 (x_44 q))] [(1, fun _ => VU .u32 x_45)] [(32, fun q => VU .u8 (x_16 q))] [(32, fun q => VU .u8 (x_21 q))] [(1, fun _ => VU .u32 number5)] rfl rfl rfl rfl FAgreeMeets.agg23 FAgreeMeets.agg23 (EqV.arr (d := 9997) (F := x_44) (G := x_21) FAgreeMeets.arrI23) (.one [(32, fun q => VU .u8 (x_43 q)), (32, fun q => VU .u8 (x_44 q))] [] [(32, fun q => VU .u8 (x_16 q)), (32, fun q => VU .u8 (x_21 q))] [] (fun _ => VU .u32 x_45) (fun _ => VU .u32 number5) rfl rfl rfl rfl FAgreeMeets.sc26 rfl rfl (EqV.u (d := 9998) (a := x_45) (b := number5) FAgreeMeets.int26) .nil)))) hc102 ?_
          refine Plan.move_bool rfl rfl ?_
          refine Plan.fieldAddr0 FAgreeMeets.fld35_0 rfl rfl ?_
          refine Plan.loadA1 h101 10 rfl rfl rfl FAgreeMeets.agg23 ?_
          refine Plan.fieldAddr0 FAgreeMeets.fld35_0 rfl rfl ?_
          refine Plan.loadA1 h101 0 rfl rfl rfl FAgreeMeets.agg23 ?_
          by_cases hc103 : (eqB 32 x_40 x_71) = true
          ·
            replace hR := ifT hR hc103
            refine Plan.eqArrV (b := true) FAgreeMeets.arrI23 rfl rfl rfl hc103 ?_
            refine Plan.pickTb rfl rfl rfl ?_
            refine Plan.move_bool rfl rfl ?_
            refine Plan.fieldAddr 32 FAgreeMeets.fld35_1 rfl rfl ?_
            refine Plan.loadA1 h101 11 rfl rfl rfl FAgreeMeets.agg30 ?_
            refine Plan.fieldAddr 32 FAgreeMeets.fld35_1 rfl rfl ?_
            refine Plan.loadA1 h101 1 rfl rfl rfl FAgreeMeets.agg30 ?_
            by_cases hc104 : (eqB 16 x_41 x_72) = true
            ·
              replace hR := ifT hR hc104
              refine Plan.eqArrV (b := true) FAgreeMeets.arrI30 rfl rfl rfl hc104 ?_
              refine Plan.pickTb rfl rfl rfl ?_
              refine Plan.move_bool rfl rfl ?_
              refine Plan.fieldAddr 48 FAgreeMeets.fld35_2 rfl rfl ?_
              refine Plan.loadA1 h101 12 rfl rfl rfl FAgreeMeets.agg31 ?_
              refine Plan.fieldAddr 48 FAgreeMeets.fld35_2 rfl rfl ?_
              refine Plan.loadA1 h101 2 rfl rfl rfl FAgreeMeets.agg31 ?_
              by_cases hc105 : (eqB 64 x_42 x_73) = true
              ·
                replace hR := ifT hR hc105
                refine Plan.eqArrV (b := true) FAgreeMeets.arrI31 rfl rfl rfl hc105 ?_
                refine Plan.pickTb rfl rfl rfl ?_
                refine Plan.move_bool rfl rfl ?_
                refine Plan.fieldAddr 48 FAgreeMeets.fld35_2 rfl rfl ?_
                refine Plan.loadA1 h101 12 rfl rfl rfl FAgreeMeets.agg31 ?_
                refine Plan.fieldAddr 32 FAgreeMeets.fld25_1 rfl rfl ?_
                refine Plan.loadA1 h101 22 rfl rfl rfl FAgreeMeets.agg23 ?_
                refine Plan.fieldAddr 32 FAgreeMeets.fld25_1 rfl rfl ?_
                refine Plan.loadA1 h101 26 rfl rfl rfl FAgreeMeets.agg23 ?_
                obtain ⟨x_107, hr106, hR⟩ := hR
                refine Plan.call (vs := [AG [(32, fun q => VU .u8 (x_16 q))], AG [(32, fun q => VU .u8 (x_26 q))]]) rfl FAgreeMeets.call13 rfl (letheref17_Bind_ok  hr106 h101) ?_
                rintro _ w108 ⟨rfl, h108⟩
                refine ⟨_, rfl, .inl ⟨PIn.keep (PIn.cons 26 rfl (PIn.cons 22 rfl (PIn.cons 12 rfl (PIn.cons 2 rfl (PIn.cons 12 rfl (PIn.cons 1 rfl (PIn.cons 11 rfl (PIn.cons 0 rfl (PIn.cons 10 rfl (PIn.parts (.cons 7 rfl (.cons 8 rfl (.cons 9 rfl .nil))) (PIn.parts (.cons 13 rfl (.cons 14 rfl (.cons 15 rfl .nil))) PIn.nil))))))))))) h108, ?_⟩⟩
                refine Plan.eqArrV (b := (eqB 64 x_42 x_107)) FAgreeMeets.arrI31 rfl rfl rfl rfl ?_
                refine Plan.pickTb rfl rfl rfl ?_
                refine Plan.assign_bool rfl rfl ?_
                refine Plan.nil ?_
                refine hK100 _ _ ?_; clear hK100
                refine W.ret (finR_ret ?_)
                have h109 := St.pickT (C := [_, _, _, _, _, _, _, _, _, _, _, _, _, _, _, _, _, _, _, _, _, _, _, _, _, _, _, _, _]) h108 [] (by decide)
                simp only [pick, List.filterMap_cons, List.filterMap_nil, List.getElem?_cons_zero, List.getElem?_cons_succ, List.cons_append, List.nil_append] at h109
                subst r
                refine RetOk.mk (.tmp_bool rfl .nil) ?_
                exact ⟨rfl, h109⟩
              ·
                replace hR := ifF hR hc105
                refine Plan.eqArrV (b := false) FAgreeMeets.arrI31 rfl rfl rfl (Bool.eq_false_iff.2 hc105) ?_
                refine Plan.pickTb rfl rfl rfl ?_
                refine Plan.move_bool rfl rfl ?_
                refine Plan.passed rfl ?_
                refine Plan.passed rfl ?_
                refine Plan.passed rfl ?_
                refine Plan.passed rfl ?_
                refine Plan.passed rfl ?_
                refine Plan.passed rfl ?_
                refine Plan.passed rfl ?_
                refine Plan.passed rfl ?_
                refine Plan.pickFb rfl rfl rfl ?_
                refine Plan.assign_bool rfl rfl ?_
                refine Plan.nil ?_
                refine hK100 _ _ ?_; clear hK100
                refine W.ret (finR_ret ?_)
                have h110 := St.pickT (C := [_, _, _, _, _, _, _, _, _, _, _, _, _, _, _, _, _, _, _, _, _, _, _, _, _, _, _, _, _]) h101 [] (by decide)
                simp only [pick, List.filterMap_cons, List.filterMap_nil, List.getElem?_cons_zero, List.getElem?_cons_succ, List.cons_append, List.nil_append] at h110
                subst r
                refine RetOk.mk (.tmp_bool rfl .nil) ?_
                exact ⟨rfl, h110⟩
            ·
              replace hR := ifF hR hc104
              refine Plan.eqArrV (b := false) FAgreeMeets.arrI30 rfl rfl rfl (Bool.eq_false_iff.2 hc104) ?_
              refine Plan.pickTb rfl rfl rfl ?_
              refine Plan.move_bool rfl rfl ?_
              refine Plan.passed rfl ?_
              refine Plan.passed rfl ?_
              refine Plan.passed rfl ?_
              refine Plan.passed rfl ?_
              refine Plan.passed rfl ?_
              refine Plan.pickFb rfl rfl rfl ?_
              refine Plan.move_bool rfl rfl ?_
              refine Plan.passed rfl ?_
              refine Plan.passed rfl ?_
              refine Plan.passed rfl ?_
              refine Plan.passed rfl ?_
              refine Plan.passed rfl ?_
              refine Plan.passed rfl ?_
              refine Plan.passed rfl ?_
              refine Plan.passed rfl ?_
              refine Plan.pickFb rfl rfl rfl ?_
              refine Plan.assign_bool rfl rfl ?_
              refine Plan.nil ?_
              refine hK100 _ _ ?_; clear hK100
              refine W.ret (finR_ret ?_)
              have h111 := St.pickT (C := [_, _, _, _, _, _, _, _, _, _, _, _, _, _, _, _, _, _, _, _, _, _, _, _, _, _, _, _, _]) h101 [] (by decide)
              simp only [pick, List.filterMap_cons, List.filterMap_nil, List.getElem?_cons_zero, List.getElem?_cons_succ, List.cons_append, List.nil_append] at h111
              subst r
              refine RetOk.mk (.tmp_bool rfl .nil) ?_
              exact ⟨rfl, h111⟩
          ·
            replace hR := ifF hR hc103
            refine Plan.eqArrV (b := false) FAgreeMeets.arrI23 rfl rfl rfl (Bool.eq_false_iff.2 hc103) ?_
            refine Plan.pickTb rfl rfl rfl ?_
            refine Plan.move_bool rfl rfl ?_
            refine Plan.passed rfl ?_
            refine Plan.passed rfl ?_
            refine Plan.passed rfl ?_
            refine Plan.passed rfl ?_
            refine Plan.passed rfl ?_
            refine Plan.pickFb rfl rfl rfl ?_
            refine Plan.move_bool rfl rfl ?_
            refine Plan.passed rfl ?_
            refine Plan.passed rfl ?_
            refine Plan.passed rfl ?_
            refine Plan.passed rfl ?_
            refine Plan.passed rfl ?_
            refine Plan.pickFb rfl rfl rfl ?_
            refine Plan.move_bool rfl rfl ?_
            refine Plan.passed rfl ?_
            refine Plan.passed rfl ?_
            refine Plan.passed rfl ?_
            refine Plan.passed rfl ?_
            refine Plan.passed rfl ?_
            refine Plan.passed rfl ?_
            refine Plan.passed rfl ?_
            refine Plan.passed rfl ?_
            refine Plan.pickFb rfl rfl rfl ?_
            refine Plan.assign_bool rfl rfl ?_
            refine Plan.nil ?_
            refine hK100 _ _ ?_; clear hK100
            refine W.ret (finR_ret ?_)
            have h112 := St.pickT (C := [_, _, _, _, _, _, _, _, _, _, _, _, _, _, _, _, _, _, _, _, _, _, _, _, _, _, _, _, _]) h101 [] (by decide)
            simp only [pick, List.filterMap_cons, List.filterMap_nil, List.getElem?_cons_zero, List.getElem?_cons_succ, List.cons_append, List.nil_append] at h112
            subst r
            refine RetOk.mk (.tmp_bool rfl .nil) ?_
            exact ⟨rfl, h112⟩
        ·
          replace hR := ifF hR hc102
          refine Plan.eqStrV' (c := false) FAgreeMeets.eqg33 rfl rfl rfl (EqV.struct (d := 9999) (l := [(23, 0), (23, 32), (26, 64)]) FAgreeMeets.flds33 (.agg [] [(32, fun q => VU .u8 (x_43 q))] [(32, fun q => VU .u8 (x_44 q)), (1, fun _ => VU .u32 x_45)] [] [(32, fun q => VU .u8 (x_16 q))] [(32, fun q => VU .u8 (x_21 q)), (1, fun _ => VU .u32 number5)] rfl rfl rfl rfl FAgreeMeets.agg23 FAgreeMeets.agg23 (EqV.arr (d := 9997) (F := x_43) (G := x_16) FAgreeMeets.arrI23) (.agg [(32, fun q => VU .u8 (x_43 q))] [(32, fun q => VU .u8 (x_44 q))] [(1, fun _ => VU .u32 x_45)] [(32, fun q => VU .u8 (x_16 q))] [(32, fun q => VU .u8 (x_21 q))] [(1, fun _ => VU .u32 number5)] rfl rfl rfl rfl FAgreeMeets.agg23 FAgreeMeets.agg23 (EqV.arr (d := 9997) (F := x_44) (G := x_21) FAgreeMeets.arrI23) (.one [(32, fun q => VU .u8 (x_43 q)), (32, fun q => VU .u8 (x_44 q))] [] [(32, fun q => VU .u8 (x_16 q)), (32, fun q => VU .u8 (x_21 q))] [] (fun _ => VU .u32 x_45) (fun _ => VU .u32 number5) rfl rfl rfl rfl FAgreeMeets.sc26 rfl rfl (EqV.u (d := 9998) (a := x_45) (b := number5) FAgreeMeets.int26) .nil)))) (Bool.eq_false_iff.2 hc102) ?_
          refine Plan.move_bool rfl rfl ?_
          refine Plan.passed rfl ?_
          refine Plan.passed rfl ?_
          refine Plan.passed rfl ?_
          refine Plan.passed rfl ?_
          refine Plan.passed rfl ?_
          refine Plan.pickFb rfl rfl rfl ?_
          refine Plan.move_bool rfl rfl ?_
          refine Plan.passed rfl ?_
          refine Plan.passed rfl ?_
          refine Plan.passed rfl ?_
          refine Plan.passed rfl ?_
          refine Plan.passed rfl ?_
          refine Plan.pickFb rfl rfl rfl ?_
          refine Plan.move_bool rfl rfl ?_
          refine Plan.passed rfl ?_
          refine Plan.passed rfl ?_
          refine Plan.passed rfl ?_
          refine Plan.passed rfl ?_
          refine Plan.passed rfl ?_
          refine Plan.pickFb rfl rfl rfl ?_
          refine Plan.move_bool rfl rfl ?_
          refine Plan.passed rfl ?_
          refine Plan.passed rfl ?_
          refine Plan.passed rfl ?_
          refine Plan.passed rfl ?_
          refine Plan.passed rfl ?_
          refine Plan.passed rfl ?_
          refine Plan.passed rfl ?_
          refine Plan.passed rfl ?_
          refine Plan.pickFb rfl rfl rfl ?_
          refine Plan.assign_bool rfl rfl ?_
          refine Plan.nil ?_
          refine hK100 _ _ ?_; clear hK100
          refine W.ret (finR_ret ?_)
          have h113 := St.pickT (C := [_, _, _, _, _, _, _, _, _, _, _, _, _, _, _, _, _, _, _, _, _, _, _, _, _, _, _, _, _]) h101 [] (by decide)
          simp only [pick, List.filterMap_cons, List.filterMap_nil, List.getElem?_cons_zero, List.getElem?_cons_succ, List.cons_append, List.nil_append] at h113
          subst r
          refine RetOk.mk (.tmp_bool rfl .nil) ?_
          exact ⟨rfl, h113⟩

end Go.Proofs.YtjclppnbbpnfnaaDoor
