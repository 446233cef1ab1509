/-
 WALKS of the package's functions, printed by this session's own program (auto.py).
-/
import Derived.Test.YtjclppnbbpnfnaaDoorProg
import Derived.Test.YtjclppnbbpnfnaaDoorEb
import Derived.Test.YtjclppnbbpnfnaaDoorRCurve
import Derived.Test.YtjclppnbbpnfnaaDoorEls
import Derived.Test.YtjclppnbbpnfnaaDoorWField
namespace Go.Proofs.YtjclppnbbpnfnaaDoor
set_option linter.unusedSimpArgs false
set_option linter.unusedVariables false
set_option linter.unusedSectionVars false
set_option maxRecDepth 8000
set_option maxHeartbeats 1000000
open Go Go.LW
theorem FCurve.mixed : Tryd.prog.follows .mixedOrders = true := by kernel_rfl
theorem FCurve.agg23 : aggT Tryd.prog 23 32 = true := by kernel_rfl
theorem FCurve.z23 : zeroIs Tryd.prog 23 [(32, fun _ => VU .u8 0#8)] := zeroIs_agg (by kernel_rfl)
theorem FCurve.arr23 : arrB Tryd.prog 23 32 1 = true := by kernel_rfl
theorem FCurve.sc5 : scalarT Tryd.prog 5 = true := by kernel_rfl
theorem FCurve.sz5 : szT Tryd.prog 5 1 = true := by kernel_rfl
theorem FCurve.sz23 : szT Tryd.prog 23 32 = true := by kernel_rfl
theorem FCurve.call20 : callB Tryd.prog 20 = true := by kernel_rfl
theorem FCurve.z71 : zeroIs Tryd.prog 71 [(5, fun _ => VU .u64 0#64)] := zeroIs_agg (by kernel_rfl)
theorem FCurve.some5 : (Tryd.prog.underlying 5).isSome = true := by kernel_rfl
theorem FCurve.sz71 : szT Tryd.prog 71 5 = true := by kernel_rfl
theorem FCurve.agg71 : aggT Tryd.prog 71 5 = true := by kernel_rfl
theorem FCurve.call25 : callB Tryd.prog 25 = true := by kernel_rfl
theorem FCurve.call26 : callB Tryd.prog 26 = true := by kernel_rfl
theorem FCurve.z75 : zeroIs Tryd.prog 75 [(5, fun _ => VU .u64 0#64), (5, fun _ => VU .u64 0#64)] := zeroIs_agg (by kernel_rfl)
theorem FCurve.row71 : rowB Tryd.prog 71 = true := by kernel_rfl
theorem FCurve.pl75 : placesB Tryd.prog 75 [(0, 5), (5, 5)] = true := by kernel_rfl
theorem FCurve.sz75 : szT Tryd.prog 75 10 = true := by kernel_rfl
theorem FCurve.u3 : Tryd.prog.underlying 3 = some (.int .i64) := by kernel_rfl
theorem FCurve.agg75 : aggT Tryd.prog 75 10 = true := by kernel_rfl
theorem FCurve.fld75_0 : fieldB Tryd.prog 75 0 0 = true := by kernel_rfl
theorem FCurve.call37 : callB Tryd.prog 37 = true := by kernel_rfl
theorem FCurve.fld75_1 : fieldB Tryd.prog 75 1 5 = true := by kernel_rfl
theorem FCurve.call27 : callB Tryd.prog 27 = true := by kernel_rfl
theorem FCurve.call38 : callB Tryd.prog 38 = true := by kernel_rfl
theorem FCurve.call39 : callB Tryd.prog 39 = true := by kernel_rfl
theorem FCurve.call29 : callB Tryd.prog 29 = true := by kernel_rfl
theorem FCurve.call40 : callB Tryd.prog 40 = true := by kernel_rfl
theorem FCurve.call28 : callB Tryd.prog 28 = true := by kernel_rfl
theorem FCurve.call30 : callB Tryd.prog 30 = true := by kernel_rfl
theorem FCurve.call31 : callB Tryd.prog 31 = true := by kernel_rfl
theorem FCurve.call15 : callB Tryd.prog 15 = true := by kernel_rfl
theorem FCurve.row23 : rowB Tryd.prog 23 = true := by kernel_rfl
theorem FCurve.arrI23 : arrIB Tryd.prog 23 32 .u8 = true := by kernel_rfl
theorem curve_Clamp_ok {B : Nat} {w0 w : World} {L : List Rg} {k1 : Nat → BitVec 8} {r : (Nat → BitVec 8)} (hR : curve_Clamp k1 r) (HST : St B w0 (L) w) :
  Calls Tryd.prog 20 #[AG [(32, fun q => VU .u8 (k1 q))]] w fun e w' => e = .returned (AG [(32, fun q => VU .u8 (r q))]) ∧ St B w0 (L) w' := by
 refine W.enter 13 Tryd.func20 rfl rfl rfl ?_
 unfold curve_Clamp at hR
 refine W.seq_k fun _ k2 => W.regionT [(0, false), (1, false)] (by kernel_rfl) ?_
 refine Plan.boxA HST rfl rfl PIn.nil fun b3 w3 hb3 h3 => ?_
 simp only [rngs, Nat.zero_add, Nat.reduceAdd, zca, zna] at h3
 refine Plan.alloc h3 rfl FCurve.z23 PIn.nil fun b4 w4 hb4 h4 => ?_
 simp only [rngs, Nat.zero_add, Nat.reduceAdd, zca, zna] at h4
 refine Plan.nil (k2 _ _ ?_); clear k2
 refine W.seq_k fun _ k5 => W.regionT [(0, true), (1, true), (2, true), (3, true), (4, false)] (by kernel_rfl) ?_
 refine Plan.idxArr1 (j := 0) FCurve.arr23 rfl rfl rfl (by omega) <| Plan.load1 (j := 0) h4 1 rfl rfl rfl (by omega) FCurve.sc5 <| Plan.andNotU .u8 (X := (k1 0)) (Y := 7#8) rfl rfl rfl <| Plan.idxArr1 (j := 0) FCurve.arr23 rfl rfl rfl (by omega) ?_
 refine Plan.storeU (j := 0) (X := ((k1 0) &&& ~~~(7#8))) h4 1 rfl rfl rfl rfl (by omega) FCurve.sz5 rfl fun w6 h6 => ?_
 simp only [zca, zna, zsz, zss] at h6
 refine Plan.nil (k5 _ _ ?_); clear k5
 refine W.seq_k fun _ k7 => W.regionT [(0, true), (1, true), (2, true), (3, true), (4, true), (5, false)] (by kernel_rfl) ?_
 refine Plan.idxArr1 (j := 31) FCurve.arr23 rfl rfl rfl (by omega) <| Plan.load1 (j := 31) h6 1 rfl rfl rfl (by omega) FCurve.sc5 <| Plan.andU .u8 (X := ((upd k1 0 ((k1 0) &&& ~~~(7#8))) 31)) (Y := 127#8) rfl rfl rfl <| Plan.orU .u8 (X := (((upd k1 0 ((k1 0) &&& ~~~(7#8))) 31) &&& (127#8))) (Y := 64#8) rfl rfl rfl <| Plan.idxArr1 (j := 31) FCurve.arr23 rfl rfl rfl (by omega) ?_
 refine Plan.storeU (j := 31) (X := ((((upd k1 0 ((k1 0) &&& ~~~(7#8))) 31) &&& (127#8)) ||| (64#8))) h6 1 rfl rfl rfl rfl (by omega) FCurve.sz5 rfl fun w8 h8 => ?_
 simp only [zca, zna, zsz, zss] at h8
 refine Plan.nil (k7 _ _ ?_); clear k7
 refine W.seq_k fun _ k9 => W.regionT [(0, true), (1, false)] (by kernel_rfl) ?_
 refine Plan.loadA1 h8 1 rfl rfl rfl FCurve.agg23 ?_
 refine Plan.storeA (f' := fun q => VU .u8 ((upd (upd k1 0 ((k1 0) &&& ~~~(7#8))) 31 ((((upd k1 0 ((k1 0) &&& ~~~(7#8))) 31) &&& (127#8)) ||| (64#8))) q)) h8 0 rfl rfl rfl rfl (fun _ _ => rfl) FCurve.sz23 rfl fun w10 h10 => ?_
 simp only [zca, zna, zsz, zss] at h10
 refine Plan.nil (k9 _ _ ?_); clear k9
 refine W.ret (finR_ret ?_)
 have h11 := St.pickT (C := [_, _]) h10 [] (by decide)
 simp only [pick, zfc, zfn, zgz, zgs, zca, zna] at h11
 subst r
 refine RetOk.mk (.agg h10 rfl (.cons 0 rfl .nil) FCurve.agg23 .nil) ?_
 exact ⟨rfl, h11⟩
theorem curve_swapped_ok {B : Nat} {w0 w : World} {L : List Rg} {bit1 : Int} {ax2 : Nat → BitVec 64} {az3 : Nat → BitVec 64} {bx4 : Nat → BitVec 64} {bz5 : Nat → BitVec 64} {r : ((Nat → BitVec 64) × (Nat → BitVec 64) × (Nat → BitVec 64) × (Nat → BitVec 64))} (hR : curve_swapped bit1 ax2 az3 bx4 bz5 r) (HST : St B w0 (L) w) :
  Calls Tryd.prog 27 #[.int .i64 bit1, AG [(5, fun q => VU .u64 (ax2 q)), (5, fun q => VU .u64 (az3 q))], AG [(5, fun q => VU .u64 (bx4 q)), (5, fun q => VU .u64 (bz5 q))]] w fun e w' => e = .returned (.tuple #[AG [(5, fun q => VU .u64 (r.1 q)), (5, fun q => VU .u64 (r.2.1 q))], AG [(5, fun q => VU .u64 (r.2.2.1 q)), (5, fun q => VU .u64 (r.2.2.2 q))]]) ∧ St B w0 (L) w' := by
 refine W.enter 32 Tryd.func27 rfl rfl rfl ?_
 unfold curve_swapped at hR
 refine W.seq_k fun _ k6 => W.regionT [(0, false), (1, false), (2, false), (3, false)] (by kernel_rfl) ?_
 refine Plan.boxA HST rfl rfl PIn.nil fun b7 w7 hb7 h7 => ?_
 simp only [rngs, Nat.zero_add, Nat.reduceAdd, zca, zna] at h7
 refine Plan.boxA h7 rfl rfl PIn.nil fun b8 w8 hb8 h8 => ?_
 simp only [rngs, Nat.zero_add, Nat.reduceAdd, zca, zna] at h8
 refine Plan.alloc h8 rfl FCurve.z75 PIn.nil fun b9 w9 hb9 h9 => ?_
 simp only [rngs, Nat.zero_add, Nat.reduceAdd, zca, zna] at h9
 refine Plan.alloc h9 rfl FCurve.z75 PIn.nil fun b10 w10 hb10 h10 => ?_
 simp only [rngs, Nat.zero_add, Nat.reduceAdd, zca, zna] at h10
 refine Plan.nil (k6 _ _ ?_); clear k6
 refine W.seq_k fun _ k11 => W.regionT [(0, true), (1, true), (2, true), (3, true), (4, true), (5, false), (6, true), (7, true), (8, true), (9, true), (10, false), (11, true), (12, false)] (by kernel_rfl) ?_
 refine Plan.move_int rfl rfl <| Plan.fieldAddr0 FCurve.fld75_0 rfl rfl <| Plan.loadA1 h10 6 rfl rfl rfl FCurve.agg71 <| Plan.fieldAddr0 FCurve.fld75_0 rfl rfl <| Plan.loadA1 h10 4 rfl rfl rfl FCurve.agg71 ?_
 obtain ⟨x_13, x_14, hr12, hR⟩ := hR
 refine Plan.call (vs := [.int .i64 bit1, AG [(5, fun q => VU .u64 (ax2 q))], AG [(5, fun q => VU .u64 (bx4 q))]]) rfl FCurve.call37 rfl (field_Swap_ok  hr12 h10) ?_
 rintro _ w15 ⟨rfl, h15⟩
 refine ⟨_, rfl, .inr ⟨rfl, ?_⟩⟩
 refine Plan.move_tuple rfl rfl <| Plan.extract_agg rfl rfl rfl <| Plan.extract_agg rfl rfl rfl <| Plan.fieldAddr0 FCurve.fld75_0 rfl rfl ?_
 refine Plan.storeA (f' := fun q => VU .u64 (x_13 q)) h15 6 rfl rfl rfl rfl (fun _ _ => rfl) FCurve.sz71 rfl fun w16 h16 => ?_
 simp only [zca, zna, zsz, zss] at h16
 refine Plan.fieldAddr0 FCurve.fld75_0 rfl rfl ?_
 refine Plan.storeA (f' := fun q => VU .u64 (x_14 q)) h16 4 rfl rfl rfl rfl (fun _ _ => rfl) FCurve.sz71 rfl fun w17 h17 => ?_
 simp only [zca, zna, zsz, zss] at h17
 refine Plan.nil (k11 _ _ ?_); clear k11
 refine W.seq_k fun _ k18 => W.regionT [(0, true), (1, true), (2, true), (3, true), (4, true), (5, false), (6, true), (7, true), (8, true), (9, true), (10, false), (11, true), (12, false)] (by kernel_rfl) ?_
 refine Plan.move_int rfl rfl <| Plan.fieldAddr 5 FCurve.fld75_1 rfl rfl <| Plan.loadA1 h17 7 rfl rfl rfl FCurve.agg71 <| Plan.fieldAddr 5 FCurve.fld75_1 rfl rfl <| Plan.loadA1 h17 5 rfl rfl rfl FCurve.agg71 ?_
 obtain ⟨x_20, x_21, hr19, hR⟩ := hR
 refine Plan.call (vs := [.int .i64 bit1, AG [(5, fun q => VU .u64 (az3 q))], AG [(5, fun q => VU .u64 (bz5 q))]]) rfl FCurve.call37 rfl (field_Swap_ok  hr19 h17) ?_
 rintro _ w22 ⟨rfl, h22⟩
 refine ⟨_, rfl, .inr ⟨rfl, ?_⟩⟩
 refine Plan.move_tuple rfl rfl <| Plan.extract_agg rfl rfl rfl <| Plan.extract_agg rfl rfl rfl <| Plan.fieldAddr 5 FCurve.fld75_1 rfl rfl ?_
 refine Plan.storeA (f' := fun q => VU .u64 (x_20 q)) h22 7 rfl rfl rfl rfl (fun _ _ => rfl) FCurve.sz71 rfl fun w23 h23 => ?_
 simp only [zca, zna, zsz, zss] at h23
 refine Plan.fieldAddr 5 FCurve.fld75_1 rfl rfl ?_
 refine Plan.storeA (f' := fun q => VU .u64 (x_21 q)) h23 5 rfl rfl rfl rfl (fun _ _ => rfl) FCurve.sz71 rfl fun w24 h24 => ?_
 simp only [zca, zna, zsz, zss] at h24
 refine Plan.nil (k18 _ _ ?_); clear k18
 refine W.seq_k fun _ k25 => ?_
 refine W.regionD FCurve.mixed [(0, true), (1, true), (2, false), (3, false)] (by kernel_rfl) ?_
 have h26 := h24.drew
 refine Plan.loadA h26 rfl rfl (.cons 6 rfl (.cons 7 rfl .nil)) FCurve.agg75 <| Plan.loadA h26 rfl rfl (.cons 4 rfl (.cons 5 rfl .nil)) FCurve.agg75 ?_
 refine Plan.storeP (ps := [(5, fun q => VU .u64 (x_13 q)), (5, fun q => VU .u64 (x_20 q))]) h26 rfl rfl rfl (.cons 2 rfl (.cons 3 rfl .nil)) ⟨fun _ _ => rfl, fun _ _ => rfl, trivial⟩ FCurve.sz75 (EffO.mix _ (Filt.keep rfl (Filt.drop rfl Filt.nil)) (PIn.parts (.cons 4 rfl (.cons 5 rfl .nil)) PIn.nil)) fun w27 h27 => ?_
 simp only [zca, zna, zsz, zss] at h27
 refine Plan.storeP (ps := [(5, fun q => VU .u64 (x_14 q)), (5, fun q => VU .u64 (x_21 q))]) h27 rfl rfl rfl (.cons 0 rfl (.cons 1 rfl .nil)) ⟨fun _ _ => rfl, fun _ _ => rfl, trivial⟩ FCurve.sz75 (EffO.wait rfl) fun w28 h28 => ?_
 simp only [zca, zna, zsz, zss] at h28
 refine Plan.nil (k25 _ _ ?_); clear k25
 refine W.ret (finR_ret ?_)
 have h29 := St.pickT (C := [_, _, _, _, _, _, _, _]) h28 [] (by decide)
 simp only [pick, zfc, zfn, zgz, zgs, zca, zna] at h29
 subst r
 refine RetOk.mk (.agg h28 rfl (.cons 2 rfl (.cons 3 rfl .nil)) FCurve.agg75 (.agg h28 rfl (.cons 0 rfl (.cons 1 rfl .nil)) FCurve.agg75 .nil)) ?_
 exact ⟨rfl, h29⟩
theorem curve_step_ok {B : Nat} {w0 w : World} {L : List Rg} {iG0 : Nat} (hG0 : L[iG0]? = some ⟨some 0, 0, 5, fun q => VU .u64 (twice5 q), false⟩) {ul1 : Nat → BitVec 64} {px2 : Nat → BitVec 64} {pz3 : Nat → BitVec 64} {qx4 : Nat → BitVec 64} {qz5 : Nat → BitVec 64} {r : ((Nat → BitVec 64) × (Nat → BitVec 64) × (Nat → BitVec 64) × (Nat → BitVec 64))} (hR : curve_step ul1 px2 pz3 qx4 qz5 r) (HST : St B w0 (L) w) :
  Calls Tryd.prog 28 #[AG [(5, fun q => VU .u64 (ul1 q))], AG [(5, fun q => VU .u64 (px2 q)), (5, fun q => VU .u64 (pz3 q))], AG [(5, fun q => VU .u64 (qx4 q)), (5, fun q => VU .u64 (qz5 q))]] w fun e w' => e = .returned (.tuple #[AG [(5, fun q => VU .u64 (r.1 q)), (5, fun q => VU .u64 (r.2.1 q))], AG [(5, fun q => VU .u64 (r.2.2.1 q)), (5, fun q => VU .u64 (r.2.2.2 q))]]) ∧ St B w0 (L) w' := by
 refine W.enter 73 Tryd.func28 rfl rfl rfl ?_
 unfold curve_step at hR
 refine W.seq_k fun _ k6 => W.regionT [(0, false), (1, false), (2, false), (3, false), (4, false)] (by kernel_rfl) ?_
 refine Plan.boxA HST rfl rfl PIn.nil fun b7 w7 hb7 h7 => ?_
 simp only [rngs, Nat.zero_add, Nat.reduceAdd, zca, zna] at h7
 refine Plan.boxA h7 rfl rfl PIn.nil fun b8 w8 hb8 h8 => ?_
 simp only [rngs, Nat.zero_add, Nat.reduceAdd, zca, zna] at h8
 refine Plan.boxA h8 rfl rfl PIn.nil fun b9 w9 hb9 h9 => ?_
 simp only [rngs, Nat.zero_add, Nat.reduceAdd, zca, zna] at h9
 refine Plan.alloc h9 rfl FCurve.z75 PIn.nil fun b10 w10 hb10 h10 => ?_
 simp only [rngs, Nat.zero_add, Nat.reduceAdd, zca, zna] at h10
 refine Plan.alloc h10 rfl FCurve.z75 PIn.nil fun b11 w11 hb11 h11 => ?_
 simp only [rngs, Nat.zero_add, Nat.reduceAdd, zca, zna] at h11
 refine Plan.nil (k6 _ _ ?_); clear k6
 refine W.seq_k fun _ k12 => ?_
 refine W.regionX (B := B) (w0 := w0) (L := L) FCurve.mixed [⟨10, 8, 71, [(5, fun q => VU .u64 ((fun _ => 0#64) q))]⟩, ⟨11, 9, 71, [(5, fun q => VU .u64 ((fun _ => 0#64) q))]⟩] [(0, true), (1, true), (2, true), (3, true), (5, true), (6, true), (7, true), (8, true)] [[(4, false)], [(9, false)]] [(12, false), (13, false)] (by kernel_rfl) (by kernel_rfl) (.cons FCurve.z71 (.cons FCurve.z71 .nil)) ?_
 have h13 := h11.drew
 refine Plan.fieldAddr0 FCurve.fld75_0 rfl rfl <| Plan.loadA1 h13 6 rfl rfl rfl FCurve.agg71 <| Plan.fieldAddr 5 FCurve.fld75_1 rfl rfl <| Plan.loadA1 h13 7 rfl rfl rfl FCurve.agg71 <| Plan.fieldAddr0 FCurve.fld75_0 rfl rfl <| Plan.loadA1 h13 6 rfl rfl rfl FCurve.agg71 <| Plan.fieldAddr 5 FCurve.fld75_1 rfl rfl <| Plan.loadA1 h13 7 rfl rfl rfl FCurve.agg71 ?_
 refine Plan.nil ⟨[_, _, _, _, _, _, _, _, _], h13, (PIn.cons 7 rfl (PIn.cons 6 rfl (PIn.cons 7 rfl (PIn.cons 6 rfl PIn.nil)))), ?_⟩
 refine PX.step fun C14 z14 w14 h14 => ?_
 simp only [zca, zna] at h14
 obtain ⟨x_16, hr15, hR⟩ := hR
 refine Plan.call (vs := [AG [(5, fun q => VU .u64 (px2 q))], AG [(5, fun q => VU .u64 (pz3 q))]]) rfl FCurve.call38 rfl (field_Elem_Add_ok  hr15 h14) ?_
 rintro _ w17 ⟨rfl, h17⟩
 refine ⟨_, rfl, .inl ⟨PIn.keep (PIn.cons 7 rfl (PIn.cons 6 rfl (PIn.cons 7 rfl (PIn.cons 6 rfl PIn.nil)))) h17, ?_⟩⟩
 refine Plan.nil ⟨[_, _, _, _, _, _, _, _, _], h17, (PIn.cons 7 rfl (PIn.cons 6 rfl (PIn.cons 7 rfl (PIn.cons 6 rfl PIn.nil)))), ?_⟩
 refine PX.step fun C18 z18 w18 h18 => ?_
 simp only [zca, zna] at h18
 obtain ⟨x_20, hr19, hR⟩ := hR
 refine Plan.call (vs := [AG [(5, fun q => VU .u64 (px2 q))], AG [(5, fun q => VU .u64 (pz3 q))]]) rfl FCurve.call39 rfl (field_Elem_Sub_ok (iG0 := (iG0 + C18.length) + 9) (flget hG0 C18) hr19 h18) ?_
 rintro _ w21 ⟨rfl, h21⟩
 refine ⟨_, rfl, .inl ⟨PIn.keep (PIn.cons 7 rfl (PIn.cons 6 rfl (PIn.cons 7 rfl (PIn.cons 6 rfl PIn.nil)))) h21, ?_⟩⟩
 refine Plan.nil ⟨[_, _, _, _, _, _, _, _, _], h21, (PIn.cons 7 rfl (PIn.cons 6 rfl (PIn.cons 7 rfl (PIn.cons 6 rfl PIn.nil)))), ?_⟩
 refine PX.done (KE.step fun b22_10 => (KE.step fun b22_11 => (KE.fin fun w22 h22 => ?_)))
 simp only [rngs, Nat.zero_add, Nat.reduceAdd, zca, zna] at h22
 refine Plan.storeP (ps := [(5, fun q => VU .u64 (x_16 q))]) h22 rfl rfl rfl (.cons 9 rfl .nil) ⟨fun _ _ => rfl, trivial⟩ FCurve.sz71 (EffO.mix _ (Filt.keep rfl (Filt.keep rfl (Filt.drop rfl (Filt.drop rfl Filt.nil)))) (PIn.cons 7 rfl (PIn.cons 6 rfl PIn.nil))) fun w23 h23 => ?_
 simp only [zca, zna, zsz, zss] at h23
 refine Plan.storeA (f' := fun q => VU .u64 (x_20 q)) h23 10 rfl rfl rfl rfl (fun _ _ => rfl) FCurve.sz71 rfl fun w24 h24 => ?_
 simp only [zca, zna, zsz, zss] at h24
 refine Plan.nil (k12 _ _ ?_); clear k12
 refine W.seq_k fun _ k25 => ?_
 refine W.regionX (B := B) (w0 := w0) (L := L) FCurve.mixed [⟨10, 10, 71, [(5, fun q => VU .u64 ((fun _ => 0#64) q))]⟩, ⟨11, 11, 71, [(5, fun q => VU .u64 ((fun _ => 0#64) q))]⟩] [(0, true), (1, true), (2, true), (3, true), (5, true), (6, true), (7, true), (8, true)] [[(4, false)], [(9, false)]] [(12, false), (13, false)] (by kernel_rfl) (by kernel_rfl) (.cons FCurve.z71 (.cons FCurve.z71 .nil)) ?_
 have h26 := h24.drew
 refine Plan.fieldAddr0 FCurve.fld75_0 rfl rfl <| Plan.loadA1 h26 4 rfl rfl rfl FCurve.agg71 <| Plan.fieldAddr 5 FCurve.fld75_1 rfl rfl <| Plan.loadA1 h26 5 rfl rfl rfl FCurve.agg71 <| Plan.fieldAddr0 FCurve.fld75_0 rfl rfl <| Plan.loadA1 h26 4 rfl rfl rfl FCurve.agg71 <| Plan.fieldAddr 5 FCurve.fld75_1 rfl rfl <| Plan.loadA1 h26 5 rfl rfl rfl FCurve.agg71 ?_
 refine Plan.nil ⟨[_, _, _, _, _, _, _, _, _, _, _], h26, (PIn.cons 5 rfl (PIn.cons 4 rfl (PIn.cons 5 rfl (PIn.cons 4 rfl PIn.nil)))), ?_⟩
 refine PX.step fun C27 z27 w27 h27 => ?_
 simp only [zca, zna] at h27
 obtain ⟨x_29, hr28, hR⟩ := hR
 refine Plan.call (vs := [AG [(5, fun q => VU .u64 (qx4 q))], AG [(5, fun q => VU .u64 (qz5 q))]]) rfl FCurve.call38 rfl (field_Elem_Add_ok  hr28 h27) ?_
 rintro _ w30 ⟨rfl, h30⟩
 refine ⟨_, rfl, .inl ⟨PIn.keep (PIn.cons 5 rfl (PIn.cons 4 rfl (PIn.cons 5 rfl (PIn.cons 4 rfl PIn.nil)))) h30, ?_⟩⟩
 refine Plan.nil ⟨[_, _, _, _, _, _, _, _, _, _, _], h30, (PIn.cons 5 rfl (PIn.cons 4 rfl (PIn.cons 5 rfl (PIn.cons 4 rfl PIn.nil)))), ?_⟩
 refine PX.step fun C31 z31 w31 h31 => ?_
 simp only [zca, zna] at h31
 obtain ⟨x_33, hr32, hR⟩ := hR
 refine Plan.call (vs := [AG [(5, fun q => VU .u64 (qx4 q))], AG [(5, fun q => VU .u64 (qz5 q))]]) rfl FCurve.call39 rfl (field_Elem_Sub_ok (iG0 := (iG0 + C31.length) + 11) (flget hG0 C31) hr32 h31) ?_
 rintro _ w34 ⟨rfl, h34⟩
 refine ⟨_, rfl, .inl ⟨PIn.keep (PIn.cons 5 rfl (PIn.cons 4 rfl (PIn.cons 5 rfl (PIn.cons 4 rfl PIn.nil)))) h34, ?_⟩⟩
 refine Plan.nil ⟨[_, _, _, _, _, _, _, _, _, _, _], h34, (PIn.cons 5 rfl (PIn.cons 4 rfl (PIn.cons 5 rfl (PIn.cons 4 rfl PIn.nil)))), ?_⟩
 refine PX.done (KE.step fun b35_10 => (KE.step fun b35_11 => (KE.fin fun w35 h35 => ?_)))
 simp only [rngs, Nat.zero_add, Nat.reduceAdd, zca, zna] at h35
 refine Plan.storeP (ps := [(5, fun q => VU .u64 (x_29 q))]) h35 rfl rfl rfl (.cons 11 rfl .nil) ⟨fun _ _ => rfl, trivial⟩ FCurve.sz71 (EffO.mix _ (Filt.keep rfl (Filt.keep rfl (Filt.drop rfl (Filt.drop rfl Filt.nil)))) (PIn.cons 5 rfl (PIn.cons 4 rfl PIn.nil))) fun w36 h36 => ?_
 simp only [zca, zna, zsz, zss] at h36
 refine Plan.storeA (f' := fun q => VU .u64 (x_33 q)) h36 12 rfl rfl rfl rfl (fun _ _ => rfl) FCurve.sz71 rfl fun w37 h37 => ?_
 simp only [zca, zna, zsz, zss] at h37
 refine Plan.nil (k25 _ _ ?_); clear k25
 refine W.seq_k fun _ k38 => ?_
 refine W.regionX (B := B) (w0 := w0) (L := L) FCurve.mixed [⟨6, 12, 71, [(5, fun q => VU .u64 ((fun _ => 0#64) q))]⟩, ⟨7, 13, 71, [(5, fun q => VU .u64 ((fun _ => 0#64) q))]⟩] [(0, true), (1, true), (3, true), (4, true)] [[(2, false)], [(5, false)]] [(8, false), (9, false)] (by kernel_rfl) (by kernel_rfl) (.cons FCurve.z71 (.cons FCurve.z71 .nil)) ?_
 have h39 := h37.drew
 refine Plan.loadA1 h39 12 rfl rfl rfl FCurve.agg71 <| Plan.loadA1 h39 9 rfl rfl rfl FCurve.agg71 <| Plan.loadA1 h39 11 rfl rfl rfl FCurve.agg71 <| Plan.loadA1 h39 10 rfl rfl rfl FCurve.agg71 ?_
 refine Plan.nil ⟨[_, _, _, _, _, _, _, _, _, _, _, _, _], h39, (PIn.cons 10 rfl (PIn.cons 11 rfl (PIn.cons 9 rfl (PIn.cons 12 rfl PIn.nil)))), ?_⟩
 refine PX.step fun C40 z40 w40 h40 => ?_
 simp only [zca, zna] at h40
 obtain ⟨x_42, hr41, hR⟩ := hR
 refine Plan.call (vs := [AG [(5, fun q => VU .u64 (x_33 q))], AG [(5, fun q => VU .u64 (x_16 q))]]) rfl FCurve.call29 rfl (field_Elem_Mul_ok  hr41 h40) ?_
 rintro _ w43 ⟨rfl, h43⟩
 refine ⟨_, rfl, .inl ⟨PIn.keep (PIn.cons 10 rfl (PIn.cons 11 rfl (PIn.cons 9 rfl (PIn.cons 12 rfl PIn.nil)))) h43, ?_⟩⟩
 refine Plan.nil ⟨[_, _, _, _, _, _, _, _, _, _, _, _, _], h43, (PIn.cons 10 rfl (PIn.cons 11 rfl (PIn.cons 9 rfl (PIn.cons 12 rfl PIn.nil)))), ?_⟩
 refine PX.step fun C44 z44 w44 h44 => ?_
 simp only [zca, zna] at h44
 obtain ⟨x_46, hr45, hR⟩ := hR
 refine Plan.call (vs := [AG [(5, fun q => VU .u64 (x_29 q))], AG [(5, fun q => VU .u64 (x_20 q))]]) rfl FCurve.call29 rfl (field_Elem_Mul_ok  hr45 h44) ?_
 rintro _ w47 ⟨rfl, h47⟩
 refine ⟨_, rfl, .inl ⟨PIn.keep (PIn.cons 10 rfl (PIn.cons 11 rfl (PIn.cons 9 rfl (PIn.cons 12 rfl PIn.nil)))) h47, ?_⟩⟩
 refine Plan.nil ⟨[_, _, _, _, _, _, _, _, _, _, _, _, _], h47, (PIn.cons 10 rfl (PIn.cons 11 rfl (PIn.cons 9 rfl (PIn.cons 12 rfl PIn.nil)))), ?_⟩
 refine PX.done (KE.step fun b48_6 => (KE.step fun b48_7 => (KE.fin fun w48 h48 => ?_)))
 simp only [rngs, Nat.zero_add, Nat.reduceAdd, zca, zna] at h48
 refine Plan.storeP (ps := [(5, fun q => VU .u64 (x_42 q))]) h48 rfl rfl rfl (.cons 13 rfl .nil) ⟨fun _ _ => rfl, trivial⟩ FCurve.sz71 (EffO.mix _ (Filt.keep rfl (Filt.keep rfl (Filt.drop rfl (Filt.drop rfl Filt.nil)))) (PIn.cons 10 rfl (PIn.cons 11 rfl PIn.nil))) fun w49 h49 => ?_
 simp only [zca, zna, zsz, zss] at h49
 refine Plan.storeA (f' := fun q => VU .u64 (x_46 q)) h49 14 rfl rfl rfl rfl (fun _ _ => rfl) FCurve.sz71 rfl fun w50 h50 => ?_
 simp only [zca, zna, zsz, zss] at h50
 refine Plan.nil (k38 _ _ ?_); clear k38
 refine W.seq_k fun _ k51 => ?_
 refine W.regionD FCurve.mixed [(0, true), (1, true), (4, true), (5, true), (6, true), (2, false), (3, false), (7, false), (8, false), (9, false), (10, true), (11, false)] (by kernel_rfl) ?_
 have h52 := h50.drew
 refine Plan.loadA1 h52 13 rfl rfl rfl FCurve.agg71 <| Plan.loadA1 h52 14 rfl rfl rfl FCurve.agg71 <| Plan.loadA1 h52 8 rfl rfl rfl FCurve.agg71 <| Plan.loadA1 h52 13 rfl rfl rfl FCurve.agg71 <| Plan.loadA1 h52 14 rfl rfl rfl FCurve.agg71 ?_
 obtain ⟨x_54, hr53, hR⟩ := hR
 refine Plan.call (vs := [AG [(5, fun q => VU .u64 (x_42 q))], AG [(5, fun q => VU .u64 (x_46 q))]]) rfl FCurve.call38 rfl (field_Elem_Add_ok  hr53 h52) ?_
 rintro _ w55 ⟨rfl, h55⟩
 refine ⟨_, rfl, .inl ⟨PIn.keep (PIn.cons 14 rfl (PIn.cons 13 rfl (PIn.cons 8 rfl (PIn.cons 14 rfl (PIn.cons 13 rfl PIn.nil))))) h55, ?_⟩⟩
 obtain ⟨x_57, hr56, hR⟩ := hR
 refine Plan.call (vs := [AG [(5, fun q => VU .u64 (x_54 q))]]) rfl FCurve.call40 rfl (field_Elem_Square_ok  hr56 h55) ?_
 rintro _ w58 ⟨rfl, h58⟩
 refine ⟨_, rfl, .inl ⟨PIn.keep (PIn.cons 14 rfl (PIn.cons 13 rfl (PIn.cons 8 rfl (PIn.cons 14 rfl (PIn.cons 13 rfl PIn.nil))))) h58, ?_⟩⟩
 obtain ⟨x_60, hr59, hR⟩ := hR
 refine Plan.call (vs := [AG [(5, fun q => VU .u64 (x_42 q))], AG [(5, fun q => VU .u64 (x_46 q))]]) rfl FCurve.call39 rfl (field_Elem_Sub_ok (iG0 := iG0 + 15) hG0 hr59 h58) ?_
 rintro _ w61 ⟨rfl, h61⟩
 refine ⟨_, rfl, .inl ⟨PIn.keep (PIn.cons 14 rfl (PIn.cons 13 rfl (PIn.cons 8 rfl (PIn.cons 14 rfl (PIn.cons 13 rfl PIn.nil))))) h61, ?_⟩⟩
 obtain ⟨x_63, hr62, hR⟩ := hR
 refine Plan.call (vs := [AG [(5, fun q => VU .u64 (x_60 q))]]) rfl FCurve.call40 rfl (field_Elem_Square_ok  hr62 h61) ?_
 rintro _ w64 ⟨rfl, h64⟩
 refine ⟨_, rfl, .inl ⟨PIn.keep (PIn.cons 14 rfl (PIn.cons 13 rfl (PIn.cons 8 rfl (PIn.cons 14 rfl (PIn.cons 13 rfl PIn.nil))))) h64, ?_⟩⟩
 obtain ⟨x_66, hr65, hR⟩ := hR
 refine Plan.call (vs := [AG [(5, fun q => VU .u64 (ul1 q))], AG [(5, fun q => VU .u64 (x_63 q))]]) rfl FCurve.call29 rfl (field_Elem_Mul_ok  hr65 h64) ?_
 rintro _ w67 ⟨rfl, h67⟩
 refine ⟨_, rfl, .inl ⟨PIn.keep (PIn.cons 14 rfl (PIn.cons 13 rfl (PIn.cons 8 rfl (PIn.cons 14 rfl (PIn.cons 13 rfl PIn.nil))))) h67, ?_⟩⟩
 refine Plan.buildP (ps := [(5, fun q => VU .u64 (x_57 q)), (5, fun q => VU .u64 (x_66 q))]) FCurve.pl75 (by decide) FCurve.z75 rfl rfl (.agg [] [(5, fun q => VU .u64 ((fun _ => 0#64) q))] [(5, fun q => VU .u64 ((fun _ => 0#64) q))] [(5, fun q => VU .u64 (x_57 q))] rfl rfl (.agg [(5, fun q => VU .u64 (x_57 q))] [(5, fun q => VU .u64 ((fun _ => 0#64) q))] [] [(5, fun q => VU .u64 (x_66 q))] rfl rfl .nil)) ?_
 refine Plan.storeP (ps := [(5, fun q => VU .u64 (x_57 q)), (5, fun q => VU .u64 (x_66 q))]) h67 rfl rfl rfl (.cons 4 rfl (.cons 5 rfl .nil)) ⟨fun _ _ => rfl, fun _ _ => rfl, trivial⟩ FCurve.sz75 (EffO.wait rfl) fun w68 h68 => ?_
 simp only [zca, zna, zsz, zss] at h68
 refine Plan.nil (k51 _ _ ?_); clear k51
 refine W.seq_k fun _ k69 => ?_
 refine W.regionX (B := B) (w0 := w0) (L := L) FCurve.mixed [⟨4, 14, 71, [(5, fun q => VU .u64 ((fun _ => 0#64) q))]⟩, ⟨5, 15, 71, [(5, fun q => VU .u64 ((fun _ => 0#64) q))]⟩] [(0, true), (2, true)] [[(1, false)], [(3, false)]] [(6, false), (7, false)] (by kernel_rfl) (by kernel_rfl) (.cons FCurve.z71 (.cons FCurve.z71 .nil)) ?_
 have h70 := h68.drew
 refine Plan.loadA1 h70 9 rfl rfl rfl FCurve.agg71 <| Plan.loadA1 h70 10 rfl rfl rfl FCurve.agg71 ?_
 refine Plan.nil ⟨[_, _, _, _, _, _, _, _, _, _, _, _, _, _, _], h70, (PIn.cons 10 rfl (PIn.cons 9 rfl PIn.nil)), ?_⟩
 refine PX.step fun C71 z71 w71 h71 => ?_
 simp only [zca, zna] at h71
 obtain ⟨x_73, hr72, hR⟩ := hR
 refine Plan.call (vs := [AG [(5, fun q => VU .u64 (x_16 q))]]) rfl FCurve.call40 rfl (field_Elem_Square_ok  hr72 h71) ?_
 rintro _ w74 ⟨rfl, h74⟩
 refine ⟨_, rfl, .inl ⟨PIn.keep (PIn.cons 10 rfl (PIn.cons 9 rfl PIn.nil)) h74, ?_⟩⟩
 refine Plan.nil ⟨[_, _, _, _, _, _, _, _, _, _, _, _, _, _, _], h74, (PIn.cons 10 rfl (PIn.cons 9 rfl PIn.nil)), ?_⟩
 refine PX.step fun C75 z75 w75 h75 => ?_
 simp only [zca, zna] at h75
 obtain ⟨x_77, hr76, hR⟩ := hR
 refine Plan.call (vs := [AG [(5, fun q => VU .u64 (x_20 q))]]) rfl FCurve.call40 rfl (field_Elem_Square_ok  hr76 h75) ?_
 rintro _ w78 ⟨rfl, h78⟩
 refine ⟨_, rfl, .inl ⟨PIn.keep (PIn.cons 10 rfl (PIn.cons 9 rfl PIn.nil)) h78, ?_⟩⟩
 refine Plan.nil ⟨[_, _, _, _, _, _, _, _, _, _, _, _, _, _, _], h78, (PIn.cons 10 rfl (PIn.cons 9 rfl PIn.nil)), ?_⟩
 refine PX.done (KE.step fun b79_4 => (KE.step fun b79_5 => (KE.fin fun w79 h79 => ?_)))
 simp only [rngs, Nat.zero_add, Nat.reduceAdd, zca, zna] at h79
 refine Plan.storeP (ps := [(5, fun q => VU .u64 (x_73 q))]) h79 rfl rfl rfl (.cons 15 rfl .nil) ⟨fun _ _ => rfl, trivial⟩ FCurve.sz71 (EffO.mix _ (Filt.keep rfl (Filt.drop rfl Filt.nil)) (PIn.cons 10 rfl PIn.nil)) fun w80 h80 => ?_
 simp only [zca, zna, zsz, zss] at h80
 refine Plan.storeA (f' := fun q => VU .u64 (x_77 q)) h80 16 rfl rfl rfl rfl (fun _ _ => rfl) FCurve.sz71 rfl fun w81 h81 => ?_
 simp only [zca, zna, zsz, zss] at h81
 refine Plan.nil (k69 _ _ ?_); clear k69
 refine W.seq_k fun _ k82 => W.regionT [(0, true), (1, true), (2, false), (3, false), (4, false)] (by kernel_rfl) ?_
 refine Plan.loadA1 h81 15 rfl rfl rfl FCurve.agg71 <| Plan.loadA1 h81 16 rfl rfl rfl FCurve.agg71 ?_
 obtain ⟨x_84, hr83, hR⟩ := hR
 refine Plan.call (vs := [AG [(5, fun q => VU .u64 (x_73 q))], AG [(5, fun q => VU .u64 (x_77 q))]]) rfl FCurve.call39 rfl (field_Elem_Sub_ok (iG0 := iG0 + 17) hG0 hr83 h81) ?_
 rintro _ w85 ⟨rfl, h85⟩
 refine ⟨_, rfl, .inr ⟨rfl, ?_⟩⟩
 refine Plan.alloc h85 rfl FCurve.z71 PIn.nil fun b86 w86 hb86 h86 => ?_
 simp only [rngs, Nat.zero_add, Nat.reduceAdd, zca, zna] at h86
 refine Plan.storeA (f' := fun q => VU .u64 (x_84 q)) h86 0 rfl rfl rfl rfl (fun _ _ => rfl) FCurve.sz71 rfl fun w87 h87 => ?_
 simp only [zca, zna, zsz, zss] at h87
 refine Plan.nil (k82 _ _ ?_); clear k82
 refine W.seq_k fun _ k88 => ?_
 refine W.regionD FCurve.mixed [(0, true), (1, true), (3, true), (4, true), (6, true), (11, true), (2, false), (5, false), (7, false), (8, false), (9, false), (10, true), (12, false), (13, false)] (by kernel_rfl) ?_
 have h89 := h87.drew
 refine Plan.loadA1 h89 16 rfl rfl rfl FCurve.agg71 <| Plan.loadA1 h89 17 rfl rfl rfl FCurve.agg71 <| Plan.loadA1 h89 0 rfl rfl rfl FCurve.agg71 <| Plan.loadA1 h89 16 rfl rfl rfl FCurve.agg71 <| Plan.loadA1 h89 0 rfl rfl rfl FCurve.agg71 <| Plan.loadA h89 rfl rfl (.cons 5 rfl (.cons 6 rfl .nil)) FCurve.agg75 ?_
 obtain ⟨x_91, hr90, hR⟩ := hR
 refine Plan.call (vs := [AG [(5, fun q => VU .u64 (x_73 q))], AG [(5, fun q => VU .u64 (x_77 q))]]) rfl FCurve.call29 rfl (field_Elem_Mul_ok  hr90 h89) ?_
 rintro _ w92 ⟨rfl, h92⟩
 refine ⟨_, rfl, .inl ⟨PIn.keep (PIn.parts (.cons 5 rfl (.cons 6 rfl .nil)) (PIn.cons 0 rfl (PIn.cons 16 rfl (PIn.cons 0 rfl (PIn.cons 17 rfl (PIn.cons 16 rfl PIn.nil)))))) h92, ?_⟩⟩
 obtain ⟨x_94, hr93, hR⟩ := hR
 refine Plan.call (vs := [VU .u32 (121665#32)]) rfl FCurve.call26 rfl (field_Small_ok  hr93 h92) ?_
 rintro _ w95 ⟨rfl, h95⟩
 refine ⟨_, rfl, .inl ⟨PIn.keep (PIn.parts (.cons 5 rfl (.cons 6 rfl .nil)) (PIn.cons 0 rfl (PIn.cons 16 rfl (PIn.cons 0 rfl (PIn.cons 17 rfl (PIn.cons 16 rfl PIn.nil)))))) h95, ?_⟩⟩
 obtain ⟨x_97, hr96, hR⟩ := hR
 refine Plan.call (vs := [AG [(5, fun q => VU .u64 (x_94 q))], AG [(5, fun q => VU .u64 (x_84 q))]]) rfl FCurve.call29 rfl (field_Elem_Mul_ok  hr96 h95) ?_
 rintro _ w98 ⟨rfl, h98⟩
 refine ⟨_, rfl, .inl ⟨PIn.keep (PIn.parts (.cons 5 rfl (.cons 6 rfl .nil)) (PIn.cons 0 rfl (PIn.cons 16 rfl (PIn.cons 0 rfl (PIn.cons 17 rfl (PIn.cons 16 rfl PIn.nil)))))) h98, ?_⟩⟩
 obtain ⟨x_100, hr99, hR⟩ := hR
 refine Plan.call (vs := [AG [(5, fun q => VU .u64 (x_73 q))], AG [(5, fun q => VU .u64 (x_97 q))]]) rfl FCurve.call38 rfl (field_Elem_Add_ok  hr99 h98) ?_
 rintro _ w101 ⟨rfl, h101⟩
 refine ⟨_, rfl, .inl ⟨PIn.keep (PIn.parts (.cons 5 rfl (.cons 6 rfl .nil)) (PIn.cons 0 rfl (PIn.cons 16 rfl (PIn.cons 0 rfl (PIn.cons 17 rfl (PIn.cons 16 rfl PIn.nil)))))) h101, ?_⟩⟩
 obtain ⟨x_103, hr102, hR⟩ := hR
 refine Plan.call (vs := [AG [(5, fun q => VU .u64 (x_84 q))], AG [(5, fun q => VU .u64 (x_100 q))]]) rfl FCurve.call29 rfl (field_Elem_Mul_ok  hr102 h101) ?_
 rintro _ w104 ⟨rfl, h104⟩
 refine ⟨_, rfl, .inl ⟨PIn.keep (PIn.parts (.cons 5 rfl (.cons 6 rfl .nil)) (PIn.cons 0 rfl (PIn.cons 16 rfl (PIn.cons 0 rfl (PIn.cons 17 rfl (PIn.cons 16 rfl PIn.nil)))))) h104, ?_⟩⟩
 refine Plan.buildP (ps := [(5, fun q => VU .u64 (x_91 q)), (5, fun q => VU .u64 (x_103 q))]) FCurve.pl75 (by decide) FCurve.z75 rfl rfl (.agg [] [(5, fun q => VU .u64 ((fun _ => 0#64) q))] [(5, fun q => VU .u64 ((fun _ => 0#64) q))] [(5, fun q => VU .u64 (x_91 q))] rfl rfl (.agg [(5, fun q => VU .u64 (x_91 q))] [(5, fun q => VU .u64 ((fun _ => 0#64) q))] [] [(5, fun q => VU .u64 (x_103 q))] rfl rfl .nil)) ?_
 refine Plan.storeP (ps := [(5, fun q => VU .u64 (x_91 q)), (5, fun q => VU .u64 (x_103 q))]) h104 rfl rfl rfl (.cons 3 rfl (.cons 4 rfl .nil)) ⟨fun _ _ => rfl, fun _ _ => rfl, trivial⟩ FCurve.sz75 (EffO.mix _ (Filt.keep rfl (Filt.drop rfl (Filt.drop rfl (Filt.drop rfl (Filt.drop rfl (Filt.drop rfl Filt.nil)))))) (PIn.parts (.cons 5 rfl (.cons 6 rfl .nil)) PIn.nil)) fun w105 h105 => ?_
 simp only [zca, zna, zsz, zss] at h105
 refine Plan.storeP (ps := [(5, fun q => VU .u64 (x_57 q)), (5, fun q => VU .u64 (x_66 q))]) h105 rfl rfl rfl (.cons 1 rfl (.cons 2 rfl .nil)) ⟨fun _ _ => rfl, fun _ _ => rfl, trivial⟩ FCurve.sz75 (EffO.wait rfl) fun w106 h106 => ?_
 simp only [zca, zna, zsz, zss] at h106
 refine Plan.nil (k88 _ _ ?_); clear k88
 refine W.ret (finR_ret ?_)
 have h107 := St.pickT (C := [_, _, _, _, _, _, _, _, _, _, _, _, _, _, _, _, _, _]) h106 [] (by decide)
 simp only [pick, zfc, zfn, zgz, zgs, zca, zna] at h107
 subst r
 refine RetOk.mk (.agg h106 rfl (.cons 3 rfl (.cons 4 rfl .nil)) FCurve.agg75 (.agg h106 rfl (.cons 1 rfl (.cons 2 rfl .nil)) FCurve.agg75 .nil)) ?_
 exact ⟨rfl, h107⟩
theorem curve_Times_ok {B : Nat} {w0 w : World} {L : List Rg} {iG0 : Nat} (hG0 : L[iG0]? = some ⟨some 0, 0, 5, fun q => VU .u64 (twice5 q), false⟩) {scalar1 : Nat → BitVec 8} {u2 : Nat → BitVec 8} {r : (Nat → BitVec 8)} (hR : curve_Times scalar1 u2 r) (HST : St B w0 (L) w) :
  Calls Tryd.prog 15 #[AG [(32, fun q => VU .u8 (scalar1 q))], AG [(32, fun q => VU .u8 (u2 q))]] w fun e w' => e = .returned (AG [(32, fun q => VU .u8 (r q))]) ∧ St B w0 (L) w' := by
 refine W.enter 68 Tryd.func15 rfl rfl rfl ?_
 unfold curve_Times at hR
 refine W.seq_k fun _ k3 => W.regionT [(0, false), (1, false), (2, false)] (by kernel_rfl) ?_
 refine Plan.boxA HST rfl rfl PIn.nil fun b4 w4 hb4 h4 => ?_
 simp only [rngs, Nat.zero_add, Nat.reduceAdd, zca, zna] at h4
 refine Plan.boxA h4 rfl rfl PIn.nil fun b5 w5 hb5 h5 => ?_
 simp only [rngs, Nat.zero_add, Nat.reduceAdd, zca, zna] at h5
 refine Plan.alloc h5 rfl FCurve.z23 PIn.nil fun b6 w6 hb6 h6 => ?_
 simp only [rngs, Nat.zero_add, Nat.reduceAdd, zca, zna] at h6
 refine Plan.nil (k3 _ _ ?_); clear k3
 refine W.seq_k fun _ k7 => W.regionT [(0, true), (1, false), (2, false), (3, false)] (by kernel_rfl) ?_
 refine Plan.loadA1 h6 2 rfl rfl rfl FCurve.agg23 ?_
 obtain ⟨x_9, hr8, hR⟩ := hR
 refine Plan.call (vs := [AG [(32, fun q => VU .u8 (scalar1 q))]]) rfl FCurve.call20 rfl (curve_Clamp_ok  hr8 h6) ?_
 rintro _ w10 ⟨rfl, h10⟩
 refine ⟨_, rfl, .inr ⟨rfl, ?_⟩⟩
 refine Plan.alloc h10 rfl FCurve.z23 PIn.nil fun b11 w11 hb11 h11 => ?_
 simp only [rngs, Nat.zero_add, Nat.reduceAdd, zca, zna] at h11
 refine Plan.storeA (f' := fun q => VU .u8 (x_9 q)) h11 0 rfl rfl rfl rfl (fun _ _ => rfl) FCurve.sz23 rfl fun w12 h12 => ?_
 simp only [zca, zna, zsz, zss] at h12
 refine Plan.nil (k7 _ _ ?_); clear k7
 refine W.seq_k fun _ k13 => W.regionT [(0, true), (1, false), (2, false), (3, false)] (by kernel_rfl) ?_
 refine Plan.loadA1 h12 2 rfl rfl rfl FCurve.agg23 ?_
 obtain ⟨x_15, hr14, hR⟩ := hR
 refine Plan.call (vs := [AG [(32, fun q => VU .u8 (u2 q))]]) rfl FCurve.call25 rfl (field_Read_ok  hr14 h12) ?_
 rintro _ w16 ⟨rfl, h16⟩
 refine ⟨_, rfl, .inr ⟨rfl, ?_⟩⟩
 refine Plan.alloc h16 rfl FCurve.z71 PIn.nil fun b17 w17 hb17 h17 => ?_
 simp only [rngs, Nat.zero_add, Nat.reduceAdd, zca, zna] at h17
 refine Plan.storeA (f' := fun q => VU .u64 (x_15 q)) h17 0 rfl rfl rfl rfl (fun _ _ => rfl) FCurve.sz71 rfl fun w18 h18 => ?_
 simp only [zca, zna, zsz, zss] at h18
 refine Plan.nil (k13 _ _ ?_); clear k13
 refine W.seq_k fun _ k19 => W.regionT [(0, false), (1, false), (2, false)] (by kernel_rfl) ?_
 obtain ⟨x_21, hr20, hR⟩ := hR
 refine Plan.call (vs := [VU .u32 (1#32)]) rfl FCurve.call26 rfl (field_Small_ok  hr20 h18) ?_
 rintro _ w22 ⟨rfl, h22⟩
 refine ⟨_, rfl, .inl ⟨PIn.keep PIn.nil h22, ?_⟩⟩
 refine Plan.alloc h22 rfl FCurve.z71 PIn.nil fun b23 w23 hb23 h23 => ?_
 simp only [rngs, Nat.zero_add, Nat.reduceAdd, zca, zna] at h23
 refine Plan.storeA (f' := fun q => VU .u64 (x_21 q)) h23 0 rfl rfl rfl rfl (fun _ _ => rfl) FCurve.sz71 rfl fun w24 h24 => ?_
 simp only [zca, zna, zsz, zss] at h24
 refine Plan.nil (k19 _ _ ?_); clear k19
 refine W.seq_k fun _ k25 => ?_
 refine W.regionX (B := B) (w0 := w0) (L := L) FCurve.mixed [⟨6, 8, 75, [(5, fun q => VU .u64 ((fun _ => 0#64) q)), (5, fun q => VU .u64 ((fun _ => 0#64) q))]⟩, ⟨7, 9, 75, [(5, fun q => VU .u64 ((fun _ => 0#64) q)), (5, fun q => VU .u64 ((fun _ => 0#64) q))]⟩] [(0, true), (1, true), (2, true), (3, true), (4, true), (5, true)] [] [(8, false), (9, false)] (by kernel_rfl) (by kernel_rfl) (.cons FCurve.z75 (.cons FCurve.z75 .nil)) ?_
 have h26 := h24.drew
 refine Plan.loadA1 h26 0 rfl rfl rfl FCurve.agg71 <| Plan.buildZ FCurve.row71 FCurve.z71 rfl ?_
 refine Plan.buildP (ps := [(5, fun q => VU .u64 (x_21 q)), (5, fun q => VU .u64 ((fun _ => 0#64) q))]) FCurve.pl75 (by decide) FCurve.z75 rfl rfl (.agg [] [(5, fun q => VU .u64 ((fun _ => 0#64) q))] [(5, fun q => VU .u64 ((fun _ => 0#64) q))] [(5, fun q => VU .u64 (x_21 q))] rfl rfl (.agg [(5, fun q => VU .u64 (x_21 q))] [(5, fun q => VU .u64 ((fun _ => 0#64) q))] [] [(5, fun q => VU .u64 ((fun _ => 0#64) q))] rfl rfl .nil)) ?_
 refine Plan.loadA1 h26 1 rfl rfl rfl FCurve.agg71 <| Plan.loadA1 h26 0 rfl rfl rfl FCurve.agg71 ?_
 refine Plan.buildP (ps := [(5, fun q => VU .u64 (x_15 q)), (5, fun q => VU .u64 (x_21 q))]) FCurve.pl75 (by decide) FCurve.z75 rfl rfl (.agg [] [(5, fun q => VU .u64 ((fun _ => 0#64) q))] [(5, fun q => VU .u64 ((fun _ => 0#64) q))] [(5, fun q => VU .u64 (x_15 q))] rfl rfl (.agg [(5, fun q => VU .u64 (x_15 q))] [(5, fun q => VU .u64 ((fun _ => 0#64) q))] [] [(5, fun q => VU .u64 (x_21 q))] rfl rfl .nil)) ?_
 refine Plan.nil ⟨[_, _, _, _, _, _], h26, (PIn.cons 0 rfl (PIn.cons 1 rfl (PIn.cons 0 rfl PIn.nil))), ?_⟩
 refine PX.done (KE.step fun b27_6 => (KE.step fun b27_7 => (KE.fin fun w27 h27 => ?_)))
 simp only [rngs, Nat.zero_add, Nat.reduceAdd, zca, zna] at h27
 refine Plan.storeP (ps := [(5, fun q => VU .u64 (x_21 q)), (5, fun q => VU .u64 ((fun _ => 0#64) q))]) h27 rfl rfl rfl (.cons 6 rfl (.cons 7 rfl .nil)) ⟨fun _ _ => rfl, fun _ _ => rfl, trivial⟩ FCurve.sz75 (EffO.mix _ (Filt.keep rfl (Filt.keep rfl (Filt.drop rfl Filt.nil))) (PIn.cons 0 rfl (PIn.cons 1 rfl PIn.nil))) fun w28 h28 => ?_
 simp only [zca, zna, zsz, zss] at h28
 refine Plan.storeP (ps := [(5, fun q => VU .u64 (x_15 q)), (5, fun q => VU .u64 (x_21 q))]) h28 rfl rfl rfl (.cons 8 rfl (.cons 9 rfl .nil)) ⟨fun _ _ => rfl, fun _ _ => rfl, trivial⟩ FCurve.sz75 (EffO.wait rfl) fun w29 h29 => ?_
 simp only [zca, zna, zsz, zss] at h29
 refine Plan.nil (k25 _ _ ?_); clear k25
 refine W.seq_k fun _ k30 => W.regionT [(0, true)] (by kernel_rfl) ?_
 refine Plan.assign_int rfl rfl <| Plan.nil (k30 _ _ ?_); clear k30
 refine W.seq_k fun _ k31 => W.seq_k fun _ k32 => ?_
 refine W.regionT [(0, true)] (by kernel_rfl) ?_
 refine Plan.assign_int rfl rfl <| Plan.nil (k32 _ _ ?_); clear k32
 obtain ⟨was130, m131, m132, m133, m134, hI135, hR0135⟩ := hR
 refine W.cutN (fun e w => ∃ y_was130 : Nat, ∃ y_m131 : Nat → BitVec 64, ∃ y_m132 : Nat → BitVec 64, ∃ y_m133 : Nat → BitVec 64, ∃ y_m134 : Nat → BitVec 64, (was130, m131, m132, m133, m134) = (y_was130, y_m131, y_m132, y_m133, y_m134) ∧ EnvHas e [(4, .pointer (some ⟨b6, 0, none⟩)), (8, .pointer (some ⟨b27_6, 0, none⟩)), (9, .pointer (some ⟨b27_7, 0, none⟩)), (10, VN y_was130)] ∧ St B w0 (⟨some b6, 0, 32, fun q => VU .u8 ((fun _ => 0#8) q), true⟩ :: ⟨some b27_6, 0, 5, fun q => VU .u64 (y_m131 q), true⟩ :: ⟨some b27_6, 5, 5, fun q => VU .u64 (y_m132 q), true⟩ :: ⟨some b27_7, 0, 5, fun q => VU .u64 (y_m133 q), true⟩ :: ⟨some b27_7, 5, 5, fun q => VU .u64 (y_m134 q), true⟩ :: L) w) ?_ ?_
 ·
  refine W.block ?_
  have h136 := St.pickT (C := [_, _, _, _, _, _, _, _, _, _]) h29 [1, 2, 3, 6, 7, 8, 9] (by decide)
  simp only [pick, zfc, zfn, zgz, zgs, zca, zna] at h136
  refine W.iter hI135 (fun (s135 : (Nat × Int × (Nat → BitVec 64) × (Nat → BitVec 64) × (Nat → BitVec 64) × (Nat → BitVec 64))) e w => EnvHas e [(4, .pointer (some ⟨b6, 0, none⟩)), (5, .pointer (some ⟨b11, 0, none⟩)), (6, .pointer (some ⟨b17, 0, none⟩)), (8, .pointer (some ⟨b27_6, 0, none⟩)), (9, .pointer (some ⟨b27_7, 0, none⟩)), (10, VN s135.1), (11, .int .i64 s135.2.1)] ∧ St B w0 (⟨some b17, 0, 5, fun q => VU .u64 (x_15 q), true⟩ :: ⟨some b11, 0, 32, fun q => VU .u8 (x_9 q), true⟩ :: ⟨some b6, 0, 32, fun q => VU .u8 ((fun _ => 0#8) q), true⟩ :: ⟨some b27_6, 0, 5, fun q => VU .u64 (s135.2.2.1 q), true⟩ :: ⟨some b27_6, 5, 5, fun q => VU .u64 (s135.2.2.2.1 q), true⟩ :: ⟨some b27_7, 0, 5, fun q => VU .u64 (s135.2.2.2.2.1 q), true⟩ :: ⟨some b27_7, 5, 5, fun q => VU .u64 (s135.2.2.2.2.2 q), true⟩ :: L) w) ⟨(zer (zer (zer (zer (zer (zer (zer zen))))))), h136⟩ ?_
  rintro ⟨was124, i_125, m126, m127, m128, m129⟩ o135 hR hx135 ev137 wl137 ⟨he137, h137⟩
  obtain ⟨ev137, rfl⟩ := he137.open
  unfold curve_Times_l0 at hR
  refine W.seq_k fun _ k138 => W.seq_k fun _ k139 => ?_
  refine W.regionT [(0, true), (1, true)] (by kernel_rfl) ?_
  refine Plan.move_int rfl rfl <| Plan.cmpP (a := (i_125 : Int)) (b := (0 : Int)) (p := 0 ≤ i_125) rfl rfl rfl rfl icmp_ge <| Plan.nil (k139 _ _ ?_); clear k139
  by_cases hc140 : 0 ≤ i_125
  ·
   replace hR := ifT hR hc140
   refine W.condT (congrArg Value.bool (decide_eq_true hc140)) ?_
   refine W.skip ?_
   refine k138 _ _ ?_; clear k138
   refine W.seq_k fun _ k141 => ?_
   refine W.block ?_
   refine W.seq_k fun _ k142 => W.regionT [(0, true), (1, true), (2, true), (3, true), (4, true), (5, true), (6, true), (7, true), (8, true), (9, true)] (by kernel_rfl) ?_
   refine Plan.move_int rfl rfl ?_
   obtain ⟨hc143, hR⟩ := hR
   refine Plan.quoIw (a := i_125) (b := 8) rfl rfl rfl (by omega) hc143 ?_
   obtain ⟨hc144, hR⟩ := hR
   refine Plan.idxArr1 (j := (i_125.tdiv 8).toNat) FCurve.arr23 rfl rfl (congrArg (Value.int .i64) (Int.toNat_of_nonneg hc144.1).symm) (by omega) <| Plan.load1 (j := (i_125.tdiv 8).toNat) h137 1 rfl rfl rfl (by omega) FCurve.sc5 <| Plan.move_int rfl rfl ?_
   have hb145 := tmod_bd i_125 (c := 8) (by decide)
   refine Plan.remI (a := i_125) (b := 8) rfl rfl rfl (by omega) ?_
   obtain ⟨hc146, hR⟩ := hR
   refine Plan.shrU .u8 (X := (x_9 ((i_125.tdiv 8).toNat))) (c := (i_125.tmod 8).toNat) rfl rfl (congrArg (Value.int .i64) (Int.toNat_of_nonneg hc146).symm) <| Plan.convN (a := ((x_9 ((i_125.tdiv 8).toNat)) >>> ((i_125.tmod 8).toNat)).toNat) FCurve.u3 FCurve.some5 rfl rfl (Nat.lt_of_lt_of_le ((x_9 ((i_125.tdiv 8).toNat)) >>> ((i_125.tmod 8).toNat)).isLt (by decide)) <| Plan.andN (a := ((x_9 ((i_125.tdiv 8).toNat)) >>> ((i_125.tmod 8).toNat)).toNat) (b := 1) rfl rfl rfl (by omega) <| Plan.assign_int rfl rfl <| Plan.nil (k142 _ _ ?_); clear k142
   refine W.seq_k fun _ k147 => W.regionT [(0, true), (1, true), (2, true), (3, true), (4, true), (5, false), (6, true), (7, true), (8, true), (9, false), (10, false)] (by kernel_rfl) ?_
   refine Plan.move_int rfl rfl <| Plan.move_int rfl rfl ?_
   obtain ⟨hc148, hR⟩ := hR
   refine Plan.xorN (a := ((((x_9 ((i_125.tdiv 8).toNat)) >>> ((i_125.tmod 8).toNat)).toNat) &&& 1)) (b := was124) rfl rfl rfl (by omega) <| Plan.loadA h137 rfl rfl (.cons 3 rfl (.cons 4 rfl .nil)) FCurve.agg75 <| Plan.loadA h137 rfl rfl (.cons 5 rfl (.cons 6 rfl .nil)) FCurve.agg75 ?_
   obtain ⟨x_150, x_151, x_152, x_153, hr149, hR⟩ := hR
   refine Plan.call (vs := [VN (((((x_9 ((i_125.tdiv 8).toNat)) >>> ((i_125.tmod 8).toNat)).toNat) &&& 1) ^^^ was124), AG [(5, fun q => VU .u64 (m126 q)), (5, fun q => VU .u64 (m127 q))], AG [(5, fun q => VU .u64 (m128 q)), (5, fun q => VU .u64 (m129 q))]]) rfl FCurve.call27 rfl (curve_swapped_ok  hr149 h137) ?_
   rintro _ w154 ⟨rfl, h154⟩
   refine ⟨_, rfl, .inr ⟨rfl, ?_⟩⟩
   refine Plan.move_tuple rfl rfl <| Plan.extract_agg rfl rfl rfl <| Plan.extract_agg rfl rfl rfl ?_
   refine Plan.storeP (ps := [(5, fun q => VU .u64 (x_150 q)), (5, fun q => VU .u64 (x_151 q))]) h154 rfl rfl rfl (.cons 3 rfl (.cons 4 rfl .nil)) ⟨fun _ _ => rfl, fun _ _ => rfl, trivial⟩ FCurve.sz75 (EffO.keep PIn.nil) fun w155 h155 => ?_
   simp only [zca, zna, zsz, zss] at h155
   refine Plan.storeP (ps := [(5, fun q => VU .u64 (x_152 q)), (5, fun q => VU .u64 (x_153 q))]) h155 rfl rfl rfl (.cons 5 rfl (.cons 6 rfl .nil)) ⟨fun _ _ => rfl, fun _ _ => rfl, trivial⟩ FCurve.sz75 (EffO.keep PIn.nil) fun w156 h156 => ?_
   simp only [zca, zna, zsz, zss] at h156
   refine Plan.nil (k147 _ _ ?_); clear k147
   refine W.seq_k fun _ k157 => W.regionT [(0, true), (1, true), (2, true), (3, false), (4, true), (5, true), (6, true), (7, false), (8, false)] (by kernel_rfl) ?_
   refine Plan.loadA1 h156 0 rfl rfl rfl FCurve.agg71 <| Plan.loadA h156 rfl rfl (.cons 3 rfl (.cons 4 rfl .nil)) FCurve.agg75 <| Plan.loadA h156 rfl rfl (.cons 5 rfl (.cons 6 rfl .nil)) FCurve.agg75 ?_
   obtain ⟨x_159, x_160, x_161, x_162, hr158, hR⟩ := hR
   refine Plan.call (vs := [AG [(5, fun q => VU .u64 (x_15 q))], AG [(5, fun q => VU .u64 (x_150 q)), (5, fun q => VU .u64 (x_151 q))], AG [(5, fun q => VU .u64 (x_152 q)), (5, fun q => VU .u64 (x_153 q))]]) rfl FCurve.call28 rfl (curve_step_ok (iG0 := iG0 + 7) hG0 hr158 h156) ?_
   rintro _ w163 ⟨rfl, h163⟩
   refine ⟨_, rfl, .inr ⟨rfl, ?_⟩⟩
   refine Plan.move_tuple rfl rfl <| Plan.extract_agg rfl rfl rfl <| Plan.extract_agg rfl rfl rfl ?_
   refine Plan.storeP (ps := [(5, fun q => VU .u64 (x_159 q)), (5, fun q => VU .u64 (x_160 q))]) h163 rfl rfl rfl (.cons 3 rfl (.cons 4 rfl .nil)) ⟨fun _ _ => rfl, fun _ _ => rfl, trivial⟩ FCurve.sz75 (EffO.keep PIn.nil) fun w164 h164 => ?_
   simp only [zca, zna, zsz, zss] at h164
   refine Plan.storeP (ps := [(5, fun q => VU .u64 (x_161 q)), (5, fun q => VU .u64 (x_162 q))]) h164 rfl rfl rfl (.cons 5 rfl (.cons 6 rfl .nil)) ⟨fun _ _ => rfl, fun _ _ => rfl, trivial⟩ FCurve.sz75 (EffO.keep PIn.nil) fun w165 h165 => ?_
   simp only [zca, zna, zsz, zss] at h165
   refine Plan.nil (k157 _ _ ?_); clear k157
   refine W.regionT [(0, true), (1, true)] (by kernel_rfl) ?_
   refine Plan.move_int rfl rfl <| Plan.assign_int rfl rfl <| Plan.nil ?_
   refine blockR_norm ?_
   refine k141 _ _ ?_; clear k141
   refine W.regionT [(0, true), (1, true), (2, true)] (by kernel_rfl) ?_
   refine Plan.move_int rfl rfl ?_
   obtain ⟨hc166, hR⟩ := hR
   refine Plan.subI (a := i_125) (b := 1) rfl rfl rfl (by omega) <| Plan.assign_int rfl rfl <| Plan.nil ?_
   exact iterR_norm ⟨_, hR, (zer (zer (zer (zer (zer (zer (zer zen))))))), h165⟩
  ·
   replace hR := ifF hR hc140
   refine W.condF (congrArg Value.bool (decide_eq_false hc140)) ?_
   refine W.exit (thenR_exit (iterR_exit (blockR_here ?_)))
   have h167 := St.pickT (C := [_, _, _, _, _, _, _]) h137 [2, 3, 4, 5, 6] (by decide)
   simp only [pick, zfc, zfn, zgz, zgs, zca, zna] at h167
   exact ⟨was124, m126, m127, m128, m129, (hx135 _ hR).symm, (zer (zer (zer (zer zen)))), h167⟩
 ·
  rintro ev168 wl168 ⟨y_was130, y_m131, y_m132, y_m133, y_m134, hy168, he168, h168⟩
  obtain ⟨ev168, rfl⟩ := he168.open
  cases hy168
  replace hR := hR0135
  refine k31 _ _ ?_; clear k31
  refine W.seq_k fun _ k169 => W.regionT [(0, true), (1, true), (2, true), (3, false), (4, true), (5, true), (6, true), (7, false)] (by kernel_rfl) ?_
  refine Plan.move_int rfl rfl <| Plan.loadA h168 rfl rfl (.cons 1 rfl (.cons 2 rfl .nil)) FCurve.agg75 <| Plan.loadA h168 rfl rfl (.cons 3 rfl (.cons 4 rfl .nil)) FCurve.agg75 ?_
  obtain ⟨x_171, x_172, x_173, x_174, hr170, hR⟩ := hR
  refine Plan.call (vs := [VN was130, AG [(5, fun q => VU .u64 (m131 q)), (5, fun q => VU .u64 (m132 q))], AG [(5, fun q => VU .u64 (m133 q)), (5, fun q => VU .u64 (m134 q))]]) rfl FCurve.call27 rfl (curve_swapped_ok  hr170 h168) ?_
  rintro _ w175 ⟨rfl, h175⟩
  refine ⟨_, rfl, .inr ⟨rfl, ?_⟩⟩
  refine Plan.move_tuple rfl rfl <| Plan.extract_agg rfl rfl rfl <| Plan.extract_agg rfl rfl rfl ?_
  refine Plan.storeP (ps := [(5, fun q => VU .u64 (x_171 q)), (5, fun q => VU .u64 (x_172 q))]) h175 rfl rfl rfl (.cons 1 rfl (.cons 2 rfl .nil)) ⟨fun _ _ => rfl, fun _ _ => rfl, trivial⟩ FCurve.sz75 (EffO.keep PIn.nil) fun w176 h176 => ?_
  simp only [zca, zna, zsz, zss] at h176
  refine Plan.nil (k169 _ _ ?_); clear k169
  refine W.seq_k fun _ k177 => ?_
  refine W.regionD FCurve.mixed [(0, true), (1, true), (2, true), (3, true), (4, false), (5, false), (6, false), (7, false)] (by kernel_rfl) ?_
  have h178 := h176.drew
  refine Plan.fieldAddr0 FCurve.fld75_0 rfl rfl <| Plan.loadA1 h178 1 rfl rfl rfl FCurve.agg71 <| Plan.fieldAddr 5 FCurve.fld75_1 rfl rfl <| Plan.loadA1 h178 2 rfl rfl rfl FCurve.agg71 ?_
  obtain ⟨x_180, hr179, hR⟩ := hR
  refine Plan.call (vs := [AG [(5, fun q => VU .u64 (x_172 q))]]) rfl FCurve.call30 rfl (field_Elem_Inv_ok  hr179 h178) ?_
  rintro _ w181 ⟨rfl, h181⟩
  refine ⟨_, rfl, .inl ⟨PIn.keep (PIn.cons 2 rfl (PIn.cons 1 rfl PIn.nil)) h181, ?_⟩⟩
  obtain ⟨x_183, hr182, hR⟩ := hR
  refine Plan.call (vs := [AG [(5, fun q => VU .u64 (x_171 q))], AG [(5, fun q => VU .u64 (x_180 q))]]) rfl FCurve.call29 rfl (field_Elem_Mul_ok  hr182 h181) ?_
  rintro _ w184 ⟨rfl, h184⟩
  refine ⟨_, rfl, .inl ⟨PIn.keep (PIn.cons 2 rfl (PIn.cons 1 rfl PIn.nil)) h184, ?_⟩⟩
  obtain ⟨x_186, hr185, hR⟩ := hR
  refine Plan.call (vs := [AG [(5, fun q => VU .u64 (x_183 q))]]) rfl FCurve.call31 rfl (field_Elem_Bytes_ok  hr185 h184) ?_
  rintro _ w187 ⟨rfl, h187⟩
  refine ⟨_, rfl, .inl ⟨PIn.keep (PIn.cons 2 rfl (PIn.cons 1 rfl PIn.nil)) h187, ?_⟩⟩
  refine Plan.storeA (f' := fun q => VU .u8 (x_186 q)) h187 0 rfl rfl rfl rfl (fun _ _ => rfl) FCurve.sz23 rfl fun w188 h188 => ?_
  simp only [zca, zna, zsz, zss] at h188
  refine Plan.nil (k177 _ _ ?_); clear k177
  refine W.ret (finR_ret ?_)
  have h189 := St.pickT (C := [_, _, _, _, _]) h188 [] (by decide)
  simp only [pick, zfc, zfn, zgz, zgs, zca, zna] at h189
  subst r
  refine RetOk.mk (.agg h188 rfl (.cons 0 rfl .nil) FCurve.agg23 .nil) ?_
  exact ⟨rfl, h189⟩
theorem curve_Shared_ok {B : Nat} {w0 w : World} {L : List Rg} {iG0 : Nat} (hG0 : L[iG0]? = some ⟨some 0, 0, 5, fun q => VU .u64 (twice5 q), false⟩) {priv1 : Nat → BitVec 8} {pub2 : Nat → BitVec 8} {r : ((Nat → BitVec 8) × Nat)} (hR : curve_Shared priv1 pub2 r) (HST : St B w0 (L) w) :
  Calls Tryd.prog 8 #[AG [(32, fun q => VU .u8 (priv1 q))], AG [(32, fun q => VU .u8 (pub2 q))]] w fun e w' => e = .returned (.tuple #[AG [(32, fun q => VU .u8 (r.1 q))], VN r.2]) ∧ St B w0 (L) w' := by
 refine W.enter 15 Tryd.func8 rfl rfl rfl ?_
 unfold curve_Shared at hR
 refine W.seq_k fun _ k3 => W.regionT [(0, false), (1, false), (2, false), (3, true)] (by kernel_rfl) ?_
 refine Plan.boxA HST rfl rfl PIn.nil fun b4 w4 hb4 h4 => ?_
 simp only [rngs, Nat.zero_add, Nat.reduceAdd, zca, zna] at h4
 refine Plan.boxA h4 rfl rfl PIn.nil fun b5 w5 hb5 h5 => ?_
 simp only [rngs, Nat.zero_add, Nat.reduceAdd, zca, zna] at h5
 refine Plan.alloc h5 rfl FCurve.z23 PIn.nil fun b6 w6 hb6 h6 => ?_
 simp only [rngs, Nat.zero_add, Nat.reduceAdd, zca, zna] at h6
 refine Plan.assign_int rfl rfl <| Plan.nil (k3 _ _ ?_); clear k3
 refine W.seq_k fun _ k7 => W.regionT [(0, true), (1, true), (2, false), (3, false), (4, false)] (by kernel_rfl) ?_
 refine Plan.loadA1 h6 2 rfl rfl rfl FCurve.agg23 <| Plan.loadA1 h6 1 rfl rfl rfl FCurve.agg23 ?_
 obtain ⟨x_9, hr8, hR⟩ := hR
 refine Plan.call (vs := [AG [(32, fun q => VU .u8 (priv1 q))], AG [(32, fun q => VU .u8 (pub2 q))]]) rfl FCurve.call15 rfl (curve_Times_ok (iG0 := iG0 + 3) hG0 hr8 h6) ?_
 rintro _ w10 ⟨rfl, h10⟩
 refine ⟨_, rfl, .inr ⟨rfl, ?_⟩⟩
 refine Plan.alloc h10 rfl FCurve.z23 PIn.nil fun b11 w11 hb11 h11 => ?_
 simp only [rngs, Nat.zero_add, Nat.reduceAdd, zca, zna] at h11
 refine Plan.storeA (f' := fun q => VU .u8 (x_9 q)) h11 0 rfl rfl rfl rfl (fun _ _ => rfl) FCurve.sz23 rfl fun w12 h12 => ?_
 simp only [zca, zna, zsz, zss] at h12
 refine Plan.nil (k7 _ _ ?_); clear k7
 refine W.seq_k fun _ k13 => W.seq_k fun _ k14 => ?_
 refine W.regionT [(0, true), (1, true), (2, true)] (by kernel_rfl) ?_
 refine Plan.loadA1 h12 0 rfl rfl rfl FCurve.agg23 <| Plan.buildZ FCurve.row23 FCurve.z23 rfl ?_
 refine Plan.eqArrV (b := (eqB 32 x_9 (fun _ => 0#8))) FCurve.arrI23 rfl rfl rfl rfl ?_
 refine Plan.nil (k14 _ _ ?_); clear k14
 by_cases hc15 : (eqB 32 x_9 (fun _ => 0#8)) = true
 ·
  replace hR := ifT hR hc15
  refine W.condT (congrArg Value.bool hc15) ?_
  refine W.seq_k fun _ k16 => W.regionT [(0, true), (1, false), (2, true)] (by kernel_rfl) ?_
  refine Plan.loadA1 h12 0 rfl rfl rfl FCurve.agg23 ?_
  refine Plan.storeA (f' := fun q => VU .u8 (x_9 q)) h12 1 rfl rfl rfl rfl (fun _ _ => rfl) FCurve.sz23 rfl fun w17 h17 => ?_
  simp only [zca, zna, zsz, zss] at h17
  refine Plan.assign_int rfl rfl <| Plan.nil (k16 _ _ ?_); clear k16
  refine W.ret (thenR_ret (finR_ret ?_))
  have h18 := St.pickT (C := [_, _, _, _]) h17 [] (by decide)
  simp only [pick, zfc, zfn, zgz, zgs, zca, zna] at h18
  subst r
  refine RetOk.mk (.agg h17 rfl (.cons 1 rfl .nil) FCurve.agg23 (.tmp_int rfl .nil)) ?_
  exact ⟨rfl, h18⟩
 ·
  replace hR := ifF hR hc15
  refine W.condF (congrArg Value.bool (Bool.eq_false_iff.2 hc15)) ?_
  refine W.skip ?_
  refine k13 _ _ ?_; clear k13
  refine W.seq_k fun _ k19 => W.regionT [(0, true), (1, false), (2, true)] (by kernel_rfl) ?_
  refine Plan.loadA1 h12 0 rfl rfl rfl FCurve.agg23 ?_
  refine Plan.storeA (f' := fun q => VU .u8 (x_9 q)) h12 1 rfl rfl rfl rfl (fun _ _ => rfl) FCurve.sz23 rfl fun w20 h20 => ?_
  simp only [zca, zna, zsz, zss] at h20
  refine Plan.assign_int rfl rfl <| Plan.nil (k19 _ _ ?_); clear k19
  refine W.ret (finR_ret ?_)
  have h21 := St.pickT (C := [_, _, _, _]) h20 [] (by decide)
  simp only [pick, zfc, zfn, zgz, zgs, zca, zna] at h21
  subst r
  refine RetOk.mk (.agg h20 rfl (.cons 1 rfl .nil) FCurve.agg23 (.tmp_int rfl .nil)) ?_
  exact ⟨rfl, h21⟩
end Go.Proofs.YtjclppnbbpnfnaaDoor
