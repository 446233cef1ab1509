/-
 WALKS of the package's functions, printed by this session's own program (auto.py).
-/
import Derived.Test.YtjclppnbbpnfnaaDoorProg
import Derived.Test.YtjclppnbbpnfnaaDoorEb
import Derived.Test.YtjclppnbbpnfnaaDoorRField
import Derived.Test.YtjclppnbbpnfnaaDoorEls
import Derived.Test.YtjclppnbbpnfnaaDoorWBits
namespace Go.Proofs.YtjclppnbbpnfnaaDoor
set_option linter.unusedSimpArgs false
set_option linter.unusedVariables false
set_option linter.unusedSectionVars false
set_option maxRecDepth 8000
set_option maxHeartbeats 1000000
open Go Go.LW
theorem FField.mixed : Tryd.prog.follows .mixedOrders = true := by kernel_rfl
theorem FField.agg23 : aggT Tryd.prog 23 32 = true := by kernel_rfl
theorem FField.z23 : zeroIs Tryd.prog 23 [(32, fun _ => VU .u8 0#8)] := zeroIs_agg (by kernel_rfl)
theorem FField.arr23 : arrB Tryd.prog 23 32 1 = true := by kernel_rfl
theorem FField.sc5 : scalarT Tryd.prog 5 = true := by kernel_rfl
theorem FField.sz5 : szT Tryd.prog 5 1 = true := by kernel_rfl
theorem FField.sz23 : szT Tryd.prog 23 32 = true := by kernel_rfl
theorem FField.z71 : zeroIs Tryd.prog 71 [(5, fun _ => VU .u64 0#64)] := zeroIs_agg (by kernel_rfl)
theorem FField.u67 : Tryd.prog.underlying 67 = some (.int .u64) := by kernel_rfl
theorem FField.some5 : (Tryd.prog.underlying 5).isSome = true := by kernel_rfl
theorem FField.call36 : callB Tryd.prog 36 = true := by kernel_rfl
theorem FField.arr69 : arrB Tryd.prog 69 5 1 = true := by kernel_rfl
theorem FField.z69 : zeroIs Tryd.prog 69 [(5, fun _ => VU .u64 0#64)] := zeroIs_agg (by kernel_rfl)
theorem FField.pl71 : placesB Tryd.prog 71 [(0, 5)] = true := by kernel_rfl
theorem FField.sz71 : szT Tryd.prog 71 5 = true := by kernel_rfl
theorem FField.agg71 : aggT Tryd.prog 71 5 = true := by kernel_rfl
theorem FField.some26 : (Tryd.prog.underlying 26).isSome = true := by kernel_rfl
theorem FField.call26 : callB Tryd.prog 26 = true := by kernel_rfl
theorem FField.fld71_0 : fieldB Tryd.prog 71 0 0 = true := by kernel_rfl
theorem FField.sc67 : scalarT Tryd.prog 67 = true := by kernel_rfl
theorem FField.sz67 : szT Tryd.prog 67 1 = true := by kernel_rfl
theorem FField.agg69 : aggT Tryd.prog 69 5 = true := by kernel_rfl
theorem FField.sz69 : szT Tryd.prog 69 5 = true := by kernel_rfl
theorem FField.call43 : callB Tryd.prog 43 = true := by kernel_rfl
theorem FField.z96 : zeroIs Tryd.prog 96 [(10, fun _ => VU .u64 0#64)] := zeroIs_agg (by kernel_rfl)
theorem FField.arr96 : arrB Tryd.prog 96 5 2 = true := by kernel_rfl
theorem FField.agg95 : aggT Tryd.prog 95 2 = true := by kernel_rfl
theorem FField.z95 : zeroIs Tryd.prog 95 [(1, fun _ => VU .u64 0#64), (1, fun _ => VU .u64 0#64)] := zeroIs_agg (by kernel_rfl)
theorem FField.call56 : callB Tryd.prog 56 = true := by kernel_rfl
theorem FField.fld95_1 : fieldB Tryd.prog 95 1 1 = true := by kernel_rfl
theorem FField.fld95_0 : fieldB Tryd.prog 95 0 0 = true := by kernel_rfl
theorem FField.sz95 : szT Tryd.prog 95 2 = true := by kernel_rfl
theorem FField.call41 : callB Tryd.prog 41 = true := by kernel_rfl
theorem FField.agg96 : aggT Tryd.prog 96 10 = true := by kernel_rfl
theorem FField.isarr96 : Tryd.prog.underlying 96 = some (.array 5 95) := by kernel_rfl
theorem FField.call29 : callB Tryd.prog 29 = true := by kernel_rfl
theorem FField.call40 : callB Tryd.prog 40 = true := by kernel_rfl
theorem FField.call45 : callB Tryd.prog 45 = true := by kernel_rfl
theorem FField.call44 : callB Tryd.prog 44 = true := by kernel_rfl
theorem FField.u5 : Tryd.prog.underlying 5 = some (.int .u8) := by kernel_rfl
theorem FField.some67 : (Tryd.prog.underlying 67).isSome = true := by kernel_rfl
theorem field_word_ok {B : Nat} {w0 w : World} {L : List Rg} {b1 : Nat → BitVec 8} {i_2 : Int} {r : (BitVec 64)} (hR : field_word b1 i_2 r) (HST : St B w0 (L) w) :
  Calls Tryd.prog 36 #[AG [(32, fun q => VU .u8 (b1 q))], .int .i64 i_2] w fun e w' => e = .returned (VU .u64 r) ∧ St B w0 (L) w' := by
 refine W.enter 21 Tryd.func36 rfl rfl rfl ?_
 unfold field_word at hR
 refine W.seq_k fun _ k3 => W.regionT [(0, false), (1, true)] (by kernel_rfl) ?_
 refine Plan.boxA HST rfl rfl PIn.nil fun b4 w4 hb4 h4 => ?_
 simp only [rngs, Nat.zero_add, Nat.reduceAdd, zca, zna] at h4
 refine Plan.assign_int rfl rfl <| Plan.nil (k3 _ _ ?_); clear k3
 refine W.seq_k fun _ k5 => W.regionT [(0, true)] (by kernel_rfl) ?_
 refine Plan.assign_int rfl rfl <| Plan.nil (k5 _ _ ?_); clear k5
 refine W.seq_k fun _ k6 => W.seq_k fun _ k7 => ?_
 refine W.regionT [(0, true)] (by kernel_rfl) ?_
 refine Plan.assign_int rfl rfl <| Plan.nil (k7 _ _ ?_); clear k7
 obtain ⟨x_34, hI35, hR035⟩ := hR
 refine W.cutN (fun e w => ∃ y_x_34 : BitVec 64, x_34 = y_x_34 ∧ EnvHas e [(5, VU .u64 y_x_34)] ∧ St B w0 (L) w) ?_ ?_
 ·
  refine W.block ?_
  refine W.iter hI35 (fun (s35 : ((BitVec 64) × Int)) e w => EnvHas e [(1, .int .i64 i_2), (2, .pointer (some ⟨b4, 0, none⟩)), (5, VU .u64 s35.1), (6, .int .i64 s35.2)] ∧ St B w0 (⟨some b4, 0, 32, fun q => VU .u8 (b1 q), true⟩ :: L) w) ⟨(zer (zer (zer (zer zen)))), h4⟩ ?_
  rintro ⟨x_32, k33⟩ o35 hR hx35 ev36 wl36 ⟨he36, h36⟩
  obtain ⟨ev36, rfl⟩ := he36.open
  unfold field_word_l0 at hR
  refine W.seq_k fun _ k37 => W.seq_k fun _ k38 => ?_
  refine W.regionT [(0, true), (1, true)] (by kernel_rfl) ?_
  refine Plan.move_int rfl rfl <| Plan.cmpP (a := (k33 : Int)) (b := (0 : Int)) (p := 0 ≤ k33) rfl rfl rfl rfl icmp_ge <| Plan.nil (k38 _ _ ?_); clear k38
  by_cases hc39 : 0 ≤ k33
  ·
   replace hR := ifT hR hc39
   refine W.condT (congrArg Value.bool (decide_eq_true hc39)) ?_
   refine W.skip ?_
   refine k37 _ _ ?_; clear k37
   refine W.seq_k fun _ k40 => ?_
   refine W.block ?_
   refine W.regionT [(0, true), (1, true), (2, true), (3, true), (4, true), (5, true), (6, true), (7, true), (8, true), (9, true)] (by kernel_rfl) ?_
   refine Plan.move_int rfl rfl <| Plan.shlU .u64 (X := x_32) (c := 8) rfl rfl rfl <| Plan.move_int rfl rfl <| Plan.move_int rfl rfl ?_
   obtain ⟨hc41, hR⟩ := hR
   refine Plan.addI (a := i_2) (b := k33) rfl rfl rfl (by omega) ?_
   obtain ⟨hc42, hR⟩ := hR
   refine Plan.idxArr1 (j := (i_2 + k33).toNat) FField.arr23 rfl rfl (congrArg (Value.int .i64) (Int.toNat_of_nonneg hc42.1).symm) (by omega) <| Plan.load1 (j := (i_2 + k33).toNat) h36 0 rfl rfl rfl (by omega) FField.sc5 <| Plan.convUU .u64 (X := (b1 ((i_2 + k33).toNat))) FField.u67 FField.some5 rfl rfl <| Plan.orU .u64 (X := (x_32 <<< 8)) (Y := ((b1 ((i_2 + k33).toNat)).setWidth 64)) rfl rfl rfl <| Plan.assign_int rfl rfl <| Plan.nil ?_
   refine blockR_norm ?_
   refine k40 _ _ ?_; clear k40
   refine W.regionT [(0, true), (1, true), (2, true)] (by kernel_rfl) ?_
   refine Plan.move_int rfl rfl ?_
   obtain ⟨hc43, hR⟩ := hR
   refine Plan.subI (a := k33) (b := 1) rfl rfl rfl (by omega) <| Plan.assign_int rfl rfl <| Plan.nil ?_
   exact iterR_norm ⟨_, hR, (zer (zer (zer (zer zen)))), h36⟩
  ·
   replace hR := ifF hR hc39
   refine W.condF (congrArg Value.bool (decide_eq_false hc39)) ?_
   refine W.exit (thenR_exit (iterR_exit (blockR_here ?_)))
   have h44 := St.pickT (C := [_]) h36 [] (by decide)
   simp only [pick, zfc, zfn, zgz, zgs, zca, zna] at h44
   exact ⟨x_32, (hx35 _ hR).symm, (zer zen), h44⟩
 ·
  rintro ev45 wl45 ⟨y_x_34, hy45, he45, h45⟩
  obtain ⟨ev45, rfl⟩ := he45.open
  subst hy45
  replace hR := hR035
  refine k6 _ _ ?_; clear k6
  refine W.seq_k fun _ k46 => W.regionT [(0, true), (1, true)] (by kernel_rfl) ?_
  refine Plan.move_int rfl rfl <| Plan.assign_int rfl rfl <| Plan.nil (k46 _ _ ?_); clear k46
  refine W.ret (finR_ret ?_)
  subst r
  refine RetOk.mk (.tmp_int rfl .nil) ?_
  exact ⟨rfl, h45⟩
theorem field_Read_ok {B : Nat} {w0 w : World} {L : List Rg} {b1 : Nat → BitVec 8} {r : (Nat → BitVec 64)} (hR : field_Read b1 r) (HST : St B w0 (L) w) :
  Calls Tryd.prog 25 #[AG [(32, fun q => VU .u8 (b1 q))]] w fun e w' => e = .returned (AG [(5, fun q => VU .u64 (r q))]) ∧ St B w0 (L) w' := by
 refine W.enter 24 Tryd.func25 rfl rfl rfl ?_
 unfold field_Read at hR
 refine W.seq_k fun _ k2 => W.regionT [(0, false), (1, false)] (by kernel_rfl) ?_
 refine Plan.boxA HST rfl rfl PIn.nil fun b3 w3 hb3 h3 => ?_
 simp only [rngs, Nat.zero_add, Nat.reduceAdd, zca, zna] at h3
 refine Plan.alloc h3 rfl FField.z71 PIn.nil fun b4 w4 hb4 h4 => ?_
 simp only [rngs, Nat.zero_add, Nat.reduceAdd, zca, zna] at h4
 refine Plan.nil (k2 _ _ ?_); clear k2
 refine W.seq_k fun _ k5 => ?_
 refine W.regionD FField.mixed [(0, true), (3, true), (7, true), (11, true), (15, true), (1, false), (2, true), (4, false), (5, true), (6, true), (8, false), (9, true), (10, true), (12, false), (13, true), (14, true), (16, false), (17, true), (18, true), (19, true), (20, true), (21, false)] (by kernel_rfl) ?_
 have h6 := h4.drew
 refine Plan.loadA1 h6 1 rfl rfl rfl FField.agg23 <| Plan.loadA1 h6 1 rfl rfl rfl FField.agg23 <| Plan.loadA1 h6 1 rfl rfl rfl FField.agg23 <| Plan.loadA1 h6 1 rfl rfl rfl FField.agg23 <| Plan.loadA1 h6 1 rfl rfl rfl FField.agg23 ?_
 obtain ⟨x_8, hr7, hR⟩ := hR
 refine Plan.call (vs := [AG [(32, fun q => VU .u8 (b1 q))], VN 0]) rfl FField.call36 rfl (field_word_ok  hr7 h6) ?_
 rintro _ w9 ⟨rfl, h9⟩
 refine ⟨_, rfl, .inl ⟨PIn.keep (PIn.cons 1 rfl (PIn.cons 1 rfl (PIn.cons 1 rfl (PIn.cons 1 rfl (PIn.cons 1 rfl PIn.nil))))) h9, ?_⟩⟩
 refine Plan.andU .u64 (X := x_8) (Y := 2251799813685247#64) rfl rfl rfl ?_
 obtain ⟨x_11, hr10, hR⟩ := hR
 refine Plan.call (vs := [AG [(32, fun q => VU .u8 (b1 q))], VN 6]) rfl FField.call36 rfl (field_word_ok  hr10 h9) ?_
 rintro _ w12 ⟨rfl, h12⟩
 refine ⟨_, rfl, .inl ⟨PIn.keep (PIn.cons 1 rfl (PIn.cons 1 rfl (PIn.cons 1 rfl (PIn.cons 1 rfl (PIn.cons 1 rfl PIn.nil))))) h12, ?_⟩⟩
 refine Plan.shrU .u64 (X := x_11) (c := 3) rfl rfl rfl <| Plan.andU .u64 (X := (x_11 >>> 3)) (Y := 2251799813685247#64) rfl rfl rfl ?_
 obtain ⟨x_14, hr13, hR⟩ := hR
 refine Plan.call (vs := [AG [(32, fun q => VU .u8 (b1 q))], VN 12]) rfl FField.call36 rfl (field_word_ok  hr13 h12) ?_
 rintro _ w15 ⟨rfl, h15⟩
 refine ⟨_, rfl, .inl ⟨PIn.keep (PIn.cons 1 rfl (PIn.cons 1 rfl (PIn.cons 1 rfl (PIn.cons 1 rfl (PIn.cons 1 rfl PIn.nil))))) h15, ?_⟩⟩
 refine Plan.shrU .u64 (X := x_14) (c := 6) rfl rfl rfl <| Plan.andU .u64 (X := (x_14 >>> 6)) (Y := 2251799813685247#64) rfl rfl rfl ?_
 obtain ⟨x_17, hr16, hR⟩ := hR
 refine Plan.call (vs := [AG [(32, fun q => VU .u8 (b1 q))], VN 19]) rfl FField.call36 rfl (field_word_ok  hr16 h15) ?_
 rintro _ w18 ⟨rfl, h18⟩
 refine ⟨_, rfl, .inl ⟨PIn.keep (PIn.cons 1 rfl (PIn.cons 1 rfl (PIn.cons 1 rfl (PIn.cons 1 rfl (PIn.cons 1 rfl PIn.nil))))) h18, ?_⟩⟩
 refine Plan.shrU .u64 (X := x_17) (c := 1) rfl rfl rfl <| Plan.andU .u64 (X := (x_17 >>> 1)) (Y := 2251799813685247#64) rfl rfl rfl ?_
 obtain ⟨x_20, hr19, hR⟩ := hR
 refine Plan.call (vs := [AG [(32, fun q => VU .u8 (b1 q))], VN 24]) rfl FField.call36 rfl (field_word_ok  hr19 h18) ?_
 rintro _ w21 ⟨rfl, h21⟩
 refine ⟨_, rfl, .inl ⟨PIn.keep (PIn.cons 1 rfl (PIn.cons 1 rfl (PIn.cons 1 rfl (PIn.cons 1 rfl (PIn.cons 1 rfl PIn.nil))))) h21, ?_⟩⟩
 refine Plan.shrU .u64 (X := x_20) (c := 12) rfl rfl rfl <| Plan.andU .u64 (X := (x_20 >>> 12)) (Y := 2251799813685247#64) rfl rfl rfl ?_
 refine Plan.buildArr (ps := [(5, fun q => VU .u64 ((lit [(x_8 &&& (2251799813685247#64)), ((x_11 >>> 3) &&& (2251799813685247#64)), ((x_14 >>> 6) &&& (2251799813685247#64)), ((x_17 >>> 1) &&& (2251799813685247#64)), ((x_20 >>> 12) &&& (2251799813685247#64))]) q))]) FField.arr69 FField.z69 rfl rfl rfl ?_
 refine Plan.buildP (ps := [(5, fun q => VU .u64 ((lit [(x_8 &&& (2251799813685247#64)), ((x_11 >>> 3) &&& (2251799813685247#64)), ((x_14 >>> 6) &&& (2251799813685247#64)), ((x_17 >>> 1) &&& (2251799813685247#64)), ((x_20 >>> 12) &&& (2251799813685247#64))]) q))]) FField.pl71 (by decide) FField.z71 rfl rfl (.agg [] [(5, fun q => VU .u64 ((fun _ => 0#64) q))] [] [(5, fun q => VU .u64 ((lit [(x_8 &&& (2251799813685247#64)), ((x_11 >>> 3) &&& (2251799813685247#64)), ((x_14 >>> 6) &&& (2251799813685247#64)), ((x_17 >>> 1) &&& (2251799813685247#64)), ((x_20 >>> 12) &&& (2251799813685247#64))]) q))] rfl rfl .nil) ?_
 refine Plan.storeA (f' := fun q => VU .u64 ((lit [(x_8 &&& (2251799813685247#64)), ((x_11 >>> 3) &&& (2251799813685247#64)), ((x_14 >>> 6) &&& (2251799813685247#64)), ((x_17 >>> 1) &&& (2251799813685247#64)), ((x_20 >>> 12) &&& (2251799813685247#64))]) q)) h21 0 rfl rfl rfl rfl (fun _ _ => rfl) FField.sz71 rfl fun w22 h22 => ?_
 simp only [zca, zna, zsz, zss] at h22
 refine Plan.nil (k5 _ _ ?_); clear k5
 refine W.ret (finR_ret ?_)
 have h23 := St.pickT (C := [_, _]) h22 [] (by decide)
 simp only [pick, zfc, zfn, zgz, zgs, zca, zna] at h23
 subst r
 refine RetOk.mk (.agg h22 rfl (.cons 0 rfl .nil) FField.agg71 .nil) ?_
 exact ⟨rfl, h23⟩
theorem field_Small_ok {B : Nat} {w0 w : World} {L : List Rg} {n_1 : BitVec 32} {r : (Nat → BitVec 64)} (hR : field_Small n_1 r) (HST : St B w0 (L) w) :
  Calls Tryd.prog 26 #[VU .u32 n_1] w fun e w' => e = .returned (AG [(5, fun q => VU .u64 (r q))]) ∧ St B w0 (L) w' := by
 refine W.enter 7 Tryd.func26 rfl rfl rfl ?_
 unfold field_Small at hR
 refine W.seq_k fun _ k2 => W.regionT [(0, false)] (by kernel_rfl) ?_
 refine Plan.alloc HST rfl FField.z71 PIn.nil fun b3 w3 hb3 h3 => ?_
 simp only [rngs, Nat.zero_add, Nat.reduceAdd, zca, zna] at h3
 refine Plan.nil (k2 _ _ ?_); clear k2
 refine W.seq_k fun _ k4 => W.regionT [(0, true), (1, true), (2, true), (3, true), (4, false)] (by kernel_rfl) ?_
 refine Plan.move_int rfl rfl <| Plan.convUU .u64 (X := n_1) FField.u67 FField.some26 rfl rfl ?_
 refine Plan.buildArr (ps := [(5, fun q => VU .u64 ((upd (fun _ => 0#64) 0 (n_1.setWidth 64)) q))]) FField.arr69 FField.z69 rfl rfl rfl ?_
 refine Plan.buildP (ps := [(5, fun q => VU .u64 ((upd (fun _ => 0#64) 0 (n_1.setWidth 64)) q))]) FField.pl71 (by decide) FField.z71 rfl rfl (.agg [] [(5, fun q => VU .u64 ((fun _ => 0#64) q))] [] [(5, fun q => VU .u64 ((upd (fun _ => 0#64) 0 (n_1.setWidth 64)) q))] rfl rfl .nil) ?_
 refine Plan.storeA (f' := fun q => VU .u64 ((upd (fun _ => 0#64) 0 (n_1.setWidth 64)) q)) h3 0 rfl rfl rfl rfl (fun _ _ => rfl) FField.sz71 rfl fun w5 h5 => ?_
 simp only [zca, zna, zsz, zss] at h5
 refine Plan.nil (k4 _ _ ?_); clear k4
 refine W.ret (finR_ret ?_)
 have h6 := St.pickT (C := [_]) h5 [] (by decide)
 simp only [pick, zfc, zfn, zgz, zgs, zca, zna] at h6
 subst r
 refine RetOk.mk (.agg h5 rfl (.cons 0 rfl .nil) FField.agg71 .nil) ?_
 exact ⟨rfl, h6⟩
theorem field_Swap_ok {B : Nat} {w0 w : World} {L : List Rg} {bit1 : Int} {al2 : Nat → BitVec 64} {bl3 : Nat → BitVec 64} {r : ((Nat → BitVec 64) × (Nat → BitVec 64))} (hR : field_Swap bit1 al2 bl3 r) (HST : St B w0 (L) w) :
  Calls Tryd.prog 37 #[.int .i64 bit1, AG [(5, fun q => VU .u64 (al2 q))], AG [(5, fun q => VU .u64 (bl3 q))]] w fun e w' => e = .returned (.tuple #[AG [(5, fun q => VU .u64 (r.1 q))], AG [(5, fun q => VU .u64 (r.2 q))]]) ∧ St B w0 (L) w' := by
 refine W.enter 15 Tryd.func37 rfl rfl rfl ?_
 unfold field_Swap at hR
 refine W.seq_k fun _ k4 => W.regionT [(0, false), (1, false), (2, false), (3, false)] (by kernel_rfl) ?_
 refine Plan.boxA HST rfl rfl PIn.nil fun b5 w5 hb5 h5 => ?_
 simp only [rngs, Nat.zero_add, Nat.reduceAdd, zca, zna] at h5
 refine Plan.boxA h5 rfl rfl PIn.nil fun b6 w6 hb6 h6 => ?_
 simp only [rngs, Nat.zero_add, Nat.reduceAdd, zca, zna] at h6
 refine Plan.alloc h6 rfl FField.z71 PIn.nil fun b7 w7 hb7 h7 => ?_
 simp only [rngs, Nat.zero_add, Nat.reduceAdd, zca, zna] at h7
 refine Plan.alloc h7 rfl FField.z71 PIn.nil fun b8 w8 hb8 h8 => ?_
 simp only [rngs, Nat.zero_add, Nat.reduceAdd, zca, zna] at h8
 refine Plan.nil (k4 _ _ ?_); clear k4
 refine W.seq_k fun _ k9 => W.seq_k fun _ k10 => ?_
 refine W.regionT [(0, true), (1, true), (2, true)] (by kernel_rfl) ?_
 refine Plan.move_int rfl rfl <| Plan.maskI (a := bit1) 1 (by decide) rfl rfl rfl <| Plan.cmpP (a := ((bit1 % 2) : Int)) (b := (1 : Int)) (p := (bit1 % 2) = 1) rfl rfl rfl rfl icmp_eq <| Plan.nil (k10 _ _ ?_); clear k10
 by_cases hc11 : (bit1 % 2) = 1
 ·
  replace hR := ifT hR hc11
  refine W.condT (congrArg Value.bool (decide_eq_true hc11)) ?_
  refine W.seq_k fun _ k12 => ?_
  refine W.regionD FField.mixed [(0, true), (1, true), (2, false), (3, false)] (by kernel_rfl) ?_
  have h13 := h8.drew
  refine Plan.loadA1 h13 2 rfl rfl rfl FField.agg71 <| Plan.loadA1 h13 3 rfl rfl rfl FField.agg71 ?_
  refine Plan.storeP (ps := [(5, fun q => VU .u64 (bl3 q))]) h13 rfl rfl rfl (.cons 1 rfl .nil) ⟨fun _ _ => rfl, trivial⟩ FField.sz71 (EffO.mix _ (Filt.keep rfl (Filt.drop rfl Filt.nil)) (PIn.cons 3 rfl PIn.nil)) fun w14 h14 => ?_
  simp only [zca, zna, zsz, zss] at h14
  refine Plan.storeA (f' := fun q => VU .u64 (al2 q)) h14 0 rfl rfl rfl rfl (fun _ _ => rfl) FField.sz71 rfl fun w15 h15 => ?_
  simp only [zca, zna, zsz, zss] at h15
  refine Plan.nil (k12 _ _ ?_); clear k12
  refine W.ret (thenR_ret (finR_ret ?_))
  have h16 := St.pickT (C := [_, _, _, _]) h15 [] (by decide)
  simp only [pick, zfc, zfn, zgz, zgs, zca, zna] at h16
  subst r
  refine RetOk.mk (.agg h15 rfl (.cons 1 rfl .nil) FField.agg71 (.agg h15 rfl (.cons 0 rfl .nil) FField.agg71 .nil)) ?_
  exact ⟨rfl, h16⟩
 ·
  replace hR := ifF hR hc11
  refine W.condF (congrArg Value.bool (decide_eq_false hc11)) ?_
  refine W.skip ?_
  refine k9 _ _ ?_; clear k9
  refine W.seq_k fun _ k17 => ?_
  refine W.regionD FField.mixed [(0, true), (1, true), (2, false), (3, false)] (by kernel_rfl) ?_
  have h18 := h8.drew
  refine Plan.loadA1 h18 3 rfl rfl rfl FField.agg71 <| Plan.loadA1 h18 2 rfl rfl rfl FField.agg71 ?_
  refine Plan.storeP (ps := [(5, fun q => VU .u64 (al2 q))]) h18 rfl rfl rfl (.cons 1 rfl .nil) ⟨fun _ _ => rfl, trivial⟩ FField.sz71 (EffO.mix _ (Filt.keep rfl (Filt.drop rfl Filt.nil)) (PIn.cons 2 rfl PIn.nil)) fun w19 h19 => ?_
  simp only [zca, zna, zsz, zss] at h19
  refine Plan.storeA (f' := fun q => VU .u64 (bl3 q)) h19 0 rfl rfl rfl rfl (fun _ _ => rfl) FField.sz71 rfl fun w20 h20 => ?_
  simp only [zca, zna, zsz, zss] at h20
  refine Plan.nil (k17 _ _ ?_); clear k17
  refine W.ret (finR_ret ?_)
  have h21 := St.pickT (C := [_, _, _, _]) h20 [] (by decide)
  simp only [pick, zfc, zfn, zgz, zgs, zca, zna] at h21
  subst r
  refine RetOk.mk (.agg h20 rfl (.cons 1 rfl .nil) FField.agg71 (.agg h20 rfl (.cons 0 rfl .nil) FField.agg71 .nil)) ?_
  exact ⟨rfl, h21⟩
theorem field_limbs_carried_ok {B : Nat} {w0 w : World} {L : List Rg} {l_1 : Nat → BitVec 64} {r : (Nat → BitVec 64)} (hR : field_limbs_carried l_1 r) (HST : St B w0 (L) w) :
  Calls Tryd.prog 43 #[AG [(5, fun q => VU .u64 (l_1 q))]] w fun e w' => e = .returned (AG [(5, fun q => VU .u64 (r q))]) ∧ St B w0 (L) w' := by
 refine W.enter 31 Tryd.func43 rfl rfl rfl ?_
 unfold field_limbs_carried at hR
 refine W.seq_k fun _ k2 => W.regionT [(0, false), (1, false)] (by kernel_rfl) ?_
 refine Plan.boxA HST rfl rfl PIn.nil fun b3 w3 hb3 h3 => ?_
 simp only [rngs, Nat.zero_add, Nat.reduceAdd, zca, zna] at h3
 refine Plan.alloc h3 rfl FField.z69 PIn.nil fun b4 w4 hb4 h4 => ?_
 simp only [rngs, Nat.zero_add, Nat.reduceAdd, zca, zna] at h4
 refine Plan.nil (k2 _ _ ?_); clear k2
 refine W.seq_k fun _ k5 => W.regionT [(0, true)] (by kernel_rfl) ?_
 refine Plan.assign_int rfl rfl <| Plan.nil (k5 _ _ ?_); clear k5
 refine W.seq_k fun _ k6 => W.seq_k fun _ k7 => ?_
 refine W.regionT [(0, true)] (by kernel_rfl) ?_
 refine Plan.move_int rfl rfl <| Plan.nil (k7 _ _ ?_); clear k7
 obtain ⟨c32, m33, hI34, hR034⟩ := hR
 refine W.cutN (fun e w => ∃ y_c32 : BitVec 64, ∃ y_m33 : Nat → BitVec 64, (c32, m33) = (y_c32, y_m33) ∧ EnvHas e [(1, .pointer (some ⟨b3, 0, none⟩)), (2, .pointer (some ⟨b4, 0, none⟩)), (3, VU .u64 y_c32)] ∧ St B w0 (⟨some b4, 0, 5, fun q => VU .u64 ((fun _ => 0#64) q), true⟩ :: ⟨some b3, 0, 5, fun q => VU .u64 (y_m33 q), true⟩ :: L) w) ?_ ?_
 ·
  refine W.block ?_
  refine W.iter hI34 (fun (s34 : ((BitVec 64) × Nat × (Nat → BitVec 64))) e w => EnvHas e [(1, .pointer (some ⟨b3, 0, none⟩)), (2, .pointer (some ⟨b4, 0, none⟩)), (3, VU .u64 s34.1), (5, VN s34.2.1)] ∧ St B w0 (⟨some b4, 0, 5, fun q => VU .u64 ((fun _ => 0#64) q), true⟩ :: ⟨some b3, 0, 5, fun q => VU .u64 (s34.2.2 q), true⟩ :: L) w) ⟨(zer (zer (zer (zer zen)))), h4⟩ ?_
  rintro ⟨c29, t30, m31⟩ o34 hR hx34 ev35 wl35 ⟨he35, h35⟩
  obtain ⟨ev35, rfl⟩ := he35.open
  unfold field_limbs_carried_l0 at hR
  refine W.seq_k fun _ k36 => W.regionT [(0, true)] (by kernel_rfl) ?_
  refine Plan.cmpP (a := (((t30 : Nat) : Int) : Int)) (b := (5 : Int)) (p := t30 < 5) rfl rfl rfl rfl icmp_ltN <| Plan.nil (k36 _ _ ?_); clear k36
  refine W.seq_k fun _ k37 => ?_
  by_cases hc38 : t30 < 5
  ·
   replace hR := ifT hR hc38
   refine W.condT (congrArg Value.bool (decide_eq_true hc38)) ?_
   refine W.skip ?_
   refine k37 _ _ ?_; clear k37
   refine W.seq_k fun _ k39 => ?_
   refine W.block ?_
   refine W.seq_k fun _ k40 => W.regionT [(0, true), (1, true)] (by kernel_rfl) ?_
   refine Plan.move_int rfl rfl <| Plan.assign_int rfl rfl <| Plan.nil (k40 _ _ ?_); clear k40
   refine W.seq_k fun _ k41 => W.regionT [(0, true), (1, true), (2, true), (3, true), (4, true), (5, true), (6, false)] (by kernel_rfl) ?_
   refine Plan.move_int rfl rfl <| Plan.idxArr1 (j := t30) FField.arr69 rfl rfl rfl (by omega) <| Plan.load1 (j := t30) h35 1 rfl rfl rfl (by omega) FField.sc67 <| Plan.move_int rfl rfl <| Plan.addU .u64 (X := (m31 t30)) (Y := c29) rfl rfl rfl <| Plan.idxArr1 (j := t30) FField.arr69 rfl rfl rfl (by omega) ?_
   refine Plan.storeU (j := t30) (X := ((m31 t30) + c29)) h35 1 rfl rfl rfl rfl (by omega) FField.sz67 rfl fun w42 h42 => ?_
   simp only [zca, zna, zsz, zss] at h42
   refine Plan.nil (k41 _ _ ?_); clear k41
   refine W.seq_k fun _ k43 => W.regionT [(0, true), (1, true), (2, true), (3, true), (4, true)] (by kernel_rfl) ?_
   refine Plan.move_int rfl rfl <| Plan.idxArr1 (j := t30) FField.arr69 rfl rfl rfl (by omega) <| Plan.load1 (j := t30) h42 1 rfl rfl rfl (by omega) FField.sc67 <| Plan.shrU .u64 (X := ((upd m31 t30 ((m31 t30) + c29)) t30)) (c := 51) rfl rfl rfl <| Plan.assign_int rfl rfl <| Plan.nil (k43 _ _ ?_); clear k43
   refine W.regionT [(0, true), (1, true), (2, true), (3, true), (4, true), (5, false)] (by kernel_rfl) ?_
   refine Plan.move_int rfl rfl <| Plan.idxArr1 (j := t30) FField.arr69 rfl rfl rfl (by omega) <| Plan.load1 (j := t30) h42 1 rfl rfl rfl (by omega) FField.sc67 <| Plan.andU .u64 (X := ((upd m31 t30 ((m31 t30) + c29)) t30)) (Y := 2251799813685247#64) rfl rfl rfl <| Plan.idxArr1 (j := t30) FField.arr69 rfl rfl rfl (by omega) ?_
   refine Plan.storeU (j := t30) (X := (((upd m31 t30 ((m31 t30) + c29)) t30) &&& (2251799813685247#64))) h42 1 rfl rfl rfl rfl (by omega) FField.sz67 rfl fun w44 h44 => ?_
   simp only [zca, zna, zsz, zss] at h44
   refine Plan.nil ?_
   refine blockR_norm ?_
   refine k39 _ _ ?_; clear k39
   refine W.regionT [(0, true), (1, true)] (by kernel_rfl) ?_
   refine Plan.addN (a := t30) (b := 1) rfl rfl rfl (by omega) <| Plan.move_int rfl rfl <| Plan.nil ?_
   exact iterR_norm ⟨_, hR, (zer (zer (zer (zer zen)))), h44⟩
  ·
   replace hR := ifF hR hc38
   refine W.condF (congrArg Value.bool (decide_eq_false hc38)) ?_
   refine W.exit (thenR_exit (iterR_exit (blockR_here ?_)))
   exact ⟨c29, m31, (hx34 _ hR).symm, (zer (zer (zer zen))), h35⟩
 ·
  rintro ev45 wl45 ⟨y_c32, y_m33, hy45, he45, h45⟩
  obtain ⟨ev45, rfl⟩ := he45.open
  cases hy45
  replace hR := hR034
  refine k6 _ _ ?_; clear k6
  refine W.seq_k fun _ k46 => W.regionT [(0, true), (1, true), (2, true), (3, true), (4, true), (5, true), (6, false)] (by kernel_rfl) ?_
  refine Plan.idxArr1 (j := 0) FField.arr69 rfl rfl rfl (by omega) <| Plan.load1 (j := 0) h45 1 rfl rfl rfl (by omega) FField.sc67 <| Plan.move_int rfl rfl <| Plan.mulU .u64 (X := 19#64) (Y := c32) rfl rfl rfl <| Plan.addU .u64 (X := (m33 0)) (Y := ((19#64) * c32)) rfl rfl rfl <| Plan.idxArr1 (j := 0) FField.arr69 rfl rfl rfl (by omega) ?_
  refine Plan.storeU (j := 0) (X := ((m33 0) + ((19#64) * c32))) h45 1 rfl rfl rfl rfl (by omega) FField.sz67 rfl fun w47 h47 => ?_
  simp only [zca, zna, zsz, zss] at h47
  refine Plan.nil (k46 _ _ ?_); clear k46
  refine W.seq_k fun _ k48 => W.regionT [(0, true), (1, false)] (by kernel_rfl) ?_
  refine Plan.loadA1 h47 1 rfl rfl rfl FField.agg69 ?_
  refine Plan.storeA (f' := fun q => VU .u64 ((upd m33 0 ((m33 0) + ((19#64) * c32))) q)) h47 0 rfl rfl rfl rfl (fun _ _ => rfl) FField.sz69 rfl fun w49 h49 => ?_
  simp only [zca, zna, zsz, zss] at h49
  refine Plan.nil (k48 _ _ ?_); clear k48
  refine W.ret (finR_ret ?_)
  have h50 := St.pickT (C := [_, _]) h49 [] (by decide)
  simp only [pick, zfc, zfn, zgz, zgs, zca, zna] at h50
  subst r
  refine RetOk.mk (.agg h49 rfl (.cons 0 rfl .nil) FField.agg69 .nil) ?_
  exact ⟨rfl, h50⟩
theorem field_Elem_Add_ok {B : Nat} {w0 w : World} {L : List Rg} {al1 : Nat → BitVec 64} {bl2 : Nat → BitVec 64} {r : (Nat → BitVec 64)} (hR : field_Elem_Add al1 bl2 r) (HST : St B w0 (L) w) :
  Calls Tryd.prog 38 #[AG [(5, fun q => VU .u64 (al1 q))], AG [(5, fun q => VU .u64 (bl2 q))]] w fun e w' => e = .returned (AG [(5, fun q => VU .u64 (r q))]) ∧ St B w0 (L) w' := by
 refine W.enter 25 Tryd.func38 rfl rfl rfl ?_
 unfold field_Elem_Add at hR
 refine W.seq_k fun _ k3 => W.regionT [(0, false), (1, false), (2, false)] (by kernel_rfl) ?_
 refine Plan.boxA HST rfl rfl PIn.nil fun b4 w4 hb4 h4 => ?_
 simp only [rngs, Nat.zero_add, Nat.reduceAdd, zca, zna] at h4
 refine Plan.boxA h4 rfl rfl PIn.nil fun b5 w5 hb5 h5 => ?_
 simp only [rngs, Nat.zero_add, Nat.reduceAdd, zca, zna] at h5
 refine Plan.alloc h5 rfl FField.z71 PIn.nil fun b6 w6 hb6 h6 => ?_
 simp only [rngs, Nat.zero_add, Nat.reduceAdd, zca, zna] at h6
 refine Plan.nil (k3 _ _ ?_); clear k3
 refine W.seq_k fun _ k7 => W.seq_k fun _ k8 => ?_
 refine W.regionT [(0, true)] (by kernel_rfl) ?_
 refine Plan.move_int rfl rfl <| Plan.nil (k8 _ _ ?_); clear k8
 obtain ⟨m27, hI28, hR028⟩ := hR
 refine W.cutN (fun e w => ∃ y_m27 : Nat → BitVec 64, m27 = y_m27 ∧ EnvHas e [(2, .pointer (some ⟨b4, 0, none⟩)), (4, .pointer (some ⟨b6, 0, none⟩))] ∧ St B w0 (⟨some b6, 0, 5, fun q => VU .u64 ((fun _ => 0#64) q), true⟩ :: ⟨some b4, 0, 5, fun q => VU .u64 (y_m27 q), true⟩ :: L) w) ?_ ?_
 ·
  refine W.block ?_
  refine W.iter hI28 (fun (s28 : (Nat × (Nat → BitVec 64))) e w => EnvHas e [(2, .pointer (some ⟨b4, 0, none⟩)), (3, .pointer (some ⟨b5, 0, none⟩)), (4, .pointer (some ⟨b6, 0, none⟩)), (6, VN s28.1)] ∧ St B w0 (⟨some b6, 0, 5, fun q => VU .u64 ((fun _ => 0#64) q), true⟩ :: ⟨some b5, 0, 5, fun q => VU .u64 (bl2 q), true⟩ :: ⟨some b4, 0, 5, fun q => VU .u64 (s28.2 q), true⟩ :: L) w) ⟨(zer (zer (zer (zer zen)))), h6⟩ ?_
  rintro ⟨t25, m26⟩ o28 hR hx28 ev29 wl29 ⟨he29, h29⟩
  obtain ⟨ev29, rfl⟩ := he29.open
  unfold field_Elem_Add_l0 at hR
  refine W.seq_k fun _ k30 => W.regionT [(0, true)] (by kernel_rfl) ?_
  refine Plan.cmpP (a := (((t25 : Nat) : Int) : Int)) (b := (5 : Int)) (p := t25 < 5) rfl rfl rfl rfl icmp_ltN <| Plan.nil (k30 _ _ ?_); clear k30
  refine W.seq_k fun _ k31 => ?_
  by_cases hc32 : t25 < 5
  ·
   replace hR := ifT hR hc32
   refine W.condT (congrArg Value.bool (decide_eq_true hc32)) ?_
   refine W.skip ?_
   refine k31 _ _ ?_; clear k31
   refine W.seq_k fun _ k33 => ?_
   refine W.block ?_
   refine W.seq_k fun _ k34 => W.regionT [(0, true), (1, true)] (by kernel_rfl) ?_
   refine Plan.move_int rfl rfl <| Plan.assign_int rfl rfl <| Plan.nil (k34 _ _ ?_); clear k34
   refine W.regionD FField.mixed [(0, true), (1, true), (2, true), (3, true), (4, true), (5, true), (6, true), (7, true), (8, true), (9, true), (10, true), (11, false)] (by kernel_rfl) ?_
   have h35 := h29.drew
   refine Plan.move_int rfl rfl <| Plan.fieldAddr0 FField.fld71_0 rfl rfl <| Plan.idxArr1 (j := t25) FField.arr69 rfl rfl rfl (by omega) <| Plan.load1 (j := t25) h35 2 rfl rfl rfl (by omega) FField.sc67 <| Plan.move_int rfl rfl <| Plan.fieldAddr0 FField.fld71_0 rfl rfl <| Plan.idxArr1 (j := t25) FField.arr69 rfl rfl rfl (by omega) <| Plan.load1 (j := t25) h35 1 rfl rfl rfl (by omega) FField.sc67 ?_
   refine Plan.addU .u64 (X := (m26 t25)) (Y := (bl2 t25)) rfl rfl rfl <| Plan.fieldAddr0 FField.fld71_0 rfl rfl <| Plan.idxArr1 (j := t25) FField.arr69 rfl rfl rfl (by omega) ?_
   refine Plan.storeU (j := t25) (X := ((m26 t25) + (bl2 t25))) h35 2 rfl rfl rfl rfl (by omega) FField.sz67 rfl fun w36 h36 => ?_
   simp only [zca, zna, zsz, zss] at h36
   refine Plan.nil ?_
   refine blockR_norm ?_
   refine k33 _ _ ?_; clear k33
   refine W.regionT [(0, true), (1, true)] (by kernel_rfl) ?_
   refine Plan.addN (a := t25) (b := 1) rfl rfl rfl (by omega) <| Plan.move_int rfl rfl <| Plan.nil ?_
   exact iterR_norm ⟨_, hR, (zer (zer (zer (zer zen)))), h36⟩
  ·
   replace hR := ifF hR hc32
   refine W.condF (congrArg Value.bool (decide_eq_false hc32)) ?_
   refine W.exit (thenR_exit (iterR_exit (blockR_here ?_)))
   have h37 := St.pickT (C := [_, _, _]) h29 [0, 2] (by decide)
   simp only [pick, zfc, zfn, zgz, zgs, zca, zna] at h37
   exact ⟨m26, (hx28 _ hR).symm, (zer (zer zen)), h37⟩
 ·
  rintro ev38 wl38 ⟨y_m27, hy38, he38, h38⟩
  obtain ⟨ev38, rfl⟩ := he38.open
  subst hy38
  replace hR := hR028
  refine k7 _ _ ?_; clear k7
  refine W.seq_k fun _ k39 => W.regionT [(0, true), (1, true), (2, false), (3, true), (4, false)] (by kernel_rfl) ?_
  refine Plan.fieldAddr0 FField.fld71_0 rfl rfl <| Plan.loadA1 h38 1 rfl rfl rfl FField.agg69 ?_
  obtain ⟨x_41, hr40, hR⟩ := hR
  refine Plan.call (vs := [AG [(5, fun q => VU .u64 (m27 q))]]) rfl FField.call43 rfl (field_limbs_carried_ok  hr40 h38) ?_
  rintro _ w42 ⟨rfl, h42⟩
  refine ⟨_, rfl, .inr ⟨rfl, ?_⟩⟩
  refine Plan.buildP (ps := [(5, fun q => VU .u64 (x_41 q))]) FField.pl71 (by decide) FField.z71 rfl rfl (.agg [] [(5, fun q => VU .u64 ((fun _ => 0#64) q))] [] [(5, fun q => VU .u64 (x_41 q))] rfl rfl .nil) ?_
  refine Plan.storeA (f' := fun q => VU .u64 (x_41 q)) h42 0 rfl rfl rfl rfl (fun _ _ => rfl) FField.sz71 rfl fun w43 h43 => ?_
  simp only [zca, zna, zsz, zss] at h43
  refine Plan.nil (k39 _ _ ?_); clear k39
  refine W.ret (finR_ret ?_)
  have h44 := St.pickT (C := [_, _]) h43 [] (by decide)
  simp only [pick, zfc, zfn, zgz, zgs, zca, zna] at h44
  subst r
  refine RetOk.mk (.agg h43 rfl (.cons 0 rfl .nil) FField.agg71 .nil) ?_
  exact ⟨rfl, h44⟩
theorem field_Elem_Sub_ok {B : Nat} {w0 w : World} {L : List Rg} {iG0 : Nat} (hG0 : L[iG0]? = some ⟨some 0, 0, 5, fun q => VU .u64 (twice5 q), false⟩) {al1 : Nat → BitVec 64} {bl2 : Nat → BitVec 64} {r : (Nat → BitVec 64)} (hR : field_Elem_Sub al1 bl2 r) (HST : St B w0 (L) w) :
  Calls Tryd.prog 39 #[AG [(5, fun q => VU .u64 (al1 q))], AG [(5, fun q => VU .u64 (bl2 q))]] w fun e w' => e = .returned (AG [(5, fun q => VU .u64 (r q))]) ∧ St B w0 (L) w' := by
 refine W.enter 29 Tryd.func39 rfl rfl rfl ?_
 unfold field_Elem_Sub at hR
 refine W.seq_k fun _ k3 => W.regionT [(0, false), (1, false), (2, false)] (by kernel_rfl) ?_
 refine Plan.boxA HST rfl rfl PIn.nil fun b4 w4 hb4 h4 => ?_
 simp only [rngs, Nat.zero_add, Nat.reduceAdd, zca, zna] at h4
 refine Plan.boxA h4 rfl rfl PIn.nil fun b5 w5 hb5 h5 => ?_
 simp only [rngs, Nat.zero_add, Nat.reduceAdd, zca, zna] at h5
 refine Plan.alloc h5 rfl FField.z71 PIn.nil fun b6 w6 hb6 h6 => ?_
 simp only [rngs, Nat.zero_add, Nat.reduceAdd, zca, zna] at h6
 refine Plan.nil (k3 _ _ ?_); clear k3
 refine W.seq_k fun _ k7 => W.seq_k fun _ k8 => ?_
 refine W.regionT [(0, true)] (by kernel_rfl) ?_
 refine Plan.move_int rfl rfl <| Plan.nil (k8 _ _ ?_); clear k8
 obtain ⟨m27, hI28, hR028⟩ := hR
 refine W.cutN (fun e w => ∃ y_m27 : Nat → BitVec 64, m27 = y_m27 ∧ EnvHas e [(2, .pointer (some ⟨b4, 0, none⟩)), (4, .pointer (some ⟨b6, 0, none⟩))] ∧ St B w0 (⟨some b6, 0, 5, fun q => VU .u64 ((fun _ => 0#64) q), true⟩ :: ⟨some b4, 0, 5, fun q => VU .u64 (y_m27 q), true⟩ :: L) w) ?_ ?_
 ·
  refine W.block ?_
  refine W.iter hI28 (fun (s28 : (Nat × (Nat → BitVec 64))) e w => EnvHas e [(2, .pointer (some ⟨b4, 0, none⟩)), (3, .pointer (some ⟨b5, 0, none⟩)), (4, .pointer (some ⟨b6, 0, none⟩)), (6, VN s28.1)] ∧ St B w0 (⟨some b6, 0, 5, fun q => VU .u64 ((fun _ => 0#64) q), true⟩ :: ⟨some b5, 0, 5, fun q => VU .u64 (bl2 q), true⟩ :: ⟨some b4, 0, 5, fun q => VU .u64 (s28.2 q), true⟩ :: L) w) ⟨(zer (zer (zer (zer zen)))), h6⟩ ?_
  rintro ⟨t25, m26⟩ o28 hR hx28 ev29 wl29 ⟨he29, h29⟩
  obtain ⟨ev29, rfl⟩ := he29.open
  unfold field_Elem_Sub_l0 at hR
  refine W.seq_k fun _ k30 => W.regionT [(0, true)] (by kernel_rfl) ?_
  refine Plan.cmpP (a := (((t25 : Nat) : Int) : Int)) (b := (5 : Int)) (p := t25 < 5) rfl rfl rfl rfl icmp_ltN <| Plan.nil (k30 _ _ ?_); clear k30
  refine W.seq_k fun _ k31 => ?_
  by_cases hc32 : t25 < 5
  ·
   replace hR := ifT hR hc32
   refine W.condT (congrArg Value.bool (decide_eq_true hc32)) ?_
   refine W.skip ?_
   refine k31 _ _ ?_; clear k31
   refine W.seq_k fun _ k33 => ?_
   refine W.block ?_
   refine W.seq_k fun _ k34 => W.regionT [(0, true), (1, true)] (by kernel_rfl) ?_
   refine Plan.move_int rfl rfl <| Plan.assign_int rfl rfl <| Plan.nil (k34 _ _ ?_); clear k34
   refine W.regionD FField.mixed [(0, true), (1, true), (2, true), (3, true), (4, true), (5, true), (6, true), (7, true), (8, true), (9, true), (10, true), (11, true), (12, true), (13, true), (14, true), (15, false)] (by kernel_rfl) ?_
   have h35 := h29.drew
   refine Plan.move_int rfl rfl <| Plan.fieldAddr0 FField.fld71_0 rfl rfl <| Plan.idxArr1 (j := t25) FField.arr69 rfl rfl rfl (by omega) <| Plan.load1 (j := t25) h35 2 rfl rfl rfl (by omega) FField.sc67 <| Plan.move_int rfl rfl <| Plan.idxArr1 (j := t25) FField.arr69 rfl rfl rfl (by omega) <| Plan.load1 (j := t25) h35 (iG0 + 3) rfl rfl hG0 (by omega) FField.sc67 <| Plan.move_int rfl rfl ?_
   refine Plan.fieldAddr0 FField.fld71_0 rfl rfl <| Plan.idxArr1 (j := t25) FField.arr69 rfl rfl rfl (by omega) <| Plan.load1 (j := t25) h35 1 rfl rfl rfl (by omega) FField.sc67 <| Plan.subU .u64 (X := (twice5 t25)) (Y := (bl2 t25)) rfl rfl rfl <| Plan.addU .u64 (X := (m26 t25)) (Y := ((twice5 t25) - (bl2 t25))) rfl rfl rfl <| Plan.fieldAddr0 FField.fld71_0 rfl rfl <| Plan.idxArr1 (j := t25) FField.arr69 rfl rfl rfl (by omega) ?_
   refine Plan.storeU (j := t25) (X := ((m26 t25) + ((twice5 t25) - (bl2 t25)))) h35 2 rfl rfl rfl rfl (by omega) FField.sz67 rfl fun w36 h36 => ?_
   simp only [zca, zna, zsz, zss] at h36
   refine Plan.nil ?_
   refine blockR_norm ?_
   refine k33 _ _ ?_; clear k33
   refine W.regionT [(0, true), (1, true)] (by kernel_rfl) ?_
   refine Plan.addN (a := t25) (b := 1) rfl rfl rfl (by omega) <| Plan.move_int rfl rfl <| Plan.nil ?_
   exact iterR_norm ⟨_, hR, (zer (zer (zer (zer zen)))), h36⟩
  ·
   replace hR := ifF hR hc32
   refine W.condF (congrArg Value.bool (decide_eq_false hc32)) ?_
   refine W.exit (thenR_exit (iterR_exit (blockR_here ?_)))
   have h37 := St.pickT (C := [_, _, _]) h29 [0, 2] (by decide)
   simp only [pick, zfc, zfn, zgz, zgs, zca, zna] at h37
   exact ⟨m26, (hx28 _ hR).symm, (zer (zer zen)), h37⟩
 ·
  rintro ev38 wl38 ⟨y_m27, hy38, he38, h38⟩
  obtain ⟨ev38, rfl⟩ := he38.open
  subst hy38
  replace hR := hR028
  refine k7 _ _ ?_; clear k7
  refine W.seq_k fun _ k39 => W.regionT [(0, true), (1, true), (2, false), (3, true), (4, false)] (by kernel_rfl) ?_
  refine Plan.fieldAddr0 FField.fld71_0 rfl rfl <| Plan.loadA1 h38 1 rfl rfl rfl FField.agg69 ?_
  obtain ⟨x_41, hr40, hR⟩ := hR
  refine Plan.call (vs := [AG [(5, fun q => VU .u64 (m27 q))]]) rfl FField.call43 rfl (field_limbs_carried_ok  hr40 h38) ?_
  rintro _ w42 ⟨rfl, h42⟩
  refine ⟨_, rfl, .inr ⟨rfl, ?_⟩⟩
  refine Plan.buildP (ps := [(5, fun q => VU .u64 (x_41 q))]) FField.pl71 (by decide) FField.z71 rfl rfl (.agg [] [(5, fun q => VU .u64 ((fun _ => 0#64) q))] [] [(5, fun q => VU .u64 (x_41 q))] rfl rfl .nil) ?_
  refine Plan.storeA (f' := fun q => VU .u64 (x_41 q)) h42 0 rfl rfl rfl rfl (fun _ _ => rfl) FField.sz71 rfl fun w43 h43 => ?_
  simp only [zca, zna, zsz, zss] at h43
  refine Plan.nil (k39 _ _ ?_); clear k39
  refine W.ret (finR_ret ?_)
  have h44 := St.pickT (C := [_, _]) h43 [] (by decide)
  simp only [pick, zfc, zfn, zgz, zgs, zca, zna] at h44
  subst r
  refine RetOk.mk (.agg h43 rfl (.cons 0 rfl .nil) FField.agg71 .nil) ?_
  exact ⟨rfl, h44⟩
theorem field_long_plus_ok {B : Nat} {w0 w : World} {L : List Rg} {xhi1 : BitVec 64} {xlo2 : BitVec 64} {a3 : BitVec 64} {b4 : BitVec 64} {r : ((BitVec 64) × (BitVec 64))} (hR : field_long_plus xhi1 xlo2 a3 b4 r) (HST : St B w0 (L) w) :
  Calls Tryd.prog 41 #[AG [(1, fun _ => VU .u64 xhi1), (1, fun _ => VU .u64 xlo2)], VU .u64 a3, VU .u64 b4] w fun e w' => e = .returned (AG [(1, fun _ => VU .u64 r.1), (1, fun _ => VU .u64 r.2)]) ∧ St B w0 (L) w' := by
 refine W.enter 34 Tryd.func41 rfl rfl rfl ?_
 unfold field_long_plus at hR
 refine W.seq_k fun _ k5 => W.regionT [(0, false), (1, false)] (by kernel_rfl) ?_
 refine Plan.boxA HST rfl rfl PIn.nil fun b6 w6 hb6 h6 => ?_
 simp only [rngs, Nat.zero_add, Nat.reduceAdd, zca, zna] at h6
 refine Plan.alloc h6 rfl FField.z95 PIn.nil fun b7 w7 hb7 h7 => ?_
 simp only [rngs, Nat.zero_add, Nat.reduceAdd, zca, zna] at h7
 refine Plan.nil (k5 _ _ ?_); clear k5
 refine W.seq_k fun _ k8 => W.regionT [(0, true), (1, true), (2, false), (3, true), (4, true), (5, true), (6, true), (7, true)] (by kernel_rfl) ?_
 refine Plan.move_int rfl rfl <| Plan.move_int rfl rfl ?_
 obtain ⟨x_10, x_11, hr9, hR⟩ := hR
 refine Plan.call (vs := [VU .u64 a3, VU .u64 b4]) rfl FField.call56 rfl (bits_Mul64_ok  hr9 h7) ?_
 rintro _ w12 ⟨rfl, h12⟩
 refine ⟨_, rfl, .inl ⟨PIn.keep PIn.nil h12, ?_⟩⟩
 refine Plan.move_tuple rfl rfl <| Plan.extract_int rfl rfl rfl <| Plan.extract_int rfl rfl rfl <| Plan.assign_int rfl rfl <| Plan.assign_int rfl rfl <| Plan.nil (k8 _ _ ?_); clear k8
 refine W.seq_k fun _ k13 => W.regionT [(0, true)] (by kernel_rfl) ?_
 refine Plan.assign_int rfl rfl <| Plan.nil (k13 _ _ ?_); clear k13
 refine W.seq_k fun _ k14 => W.regionT [(0, true), (1, true), (2, true), (3, false), (4, true), (5, true), (6, true), (7, true), (8, false), (9, true)] (by kernel_rfl) ?_
 refine Plan.fieldAddr 1 FField.fld95_1 rfl rfl <| Plan.load0 h12 3 rfl rfl rfl (by omega) FField.sc67 <| Plan.move_int rfl rfl <| Plan.add64 (X := xlo2) (Y := x_11) (C := 0#64) Tryd.func42 rfl rfl rfl rfl rfl rfl rfl rfl (by decide) <| Plan.move_tuple rfl rfl <| Plan.extract_int rfl rfl rfl <| Plan.extract_int rfl rfl rfl <| Plan.fieldAddr 1 FField.fld95_1 rfl rfl ?_
 refine Plan.storeC_int h12 3 rfl rfl rfl rfl FField.sz67 rfl fun w15 h15 => ?_
 simp only [zca, zna, zsz, zss] at h15
 refine Plan.assign_int rfl rfl <| Plan.nil (k14 _ _ ?_); clear k14
 refine W.seq_k fun _ k16 => W.regionT [(0, true), (1, true), (2, true), (3, true), (4, false), (5, true), (6, true), (7, true), (8, true), (9, false)] (by kernel_rfl) ?_
 refine Plan.fieldAddr0 FField.fld95_0 rfl rfl <| Plan.load0 h15 2 rfl rfl rfl (by omega) FField.sc67 <| Plan.move_int rfl rfl <| Plan.move_int rfl rfl ?_
 obtain ⟨hc17, hR⟩ := hR
 refine Plan.add64 (X := xhi1) (Y := x_10) (C := (BitVec.ofNat 64 ((xlo2.toNat + x_11.toNat + (0#64).toNat) / 2 ^ 64))) Tryd.func42 rfl rfl rfl rfl rfl rfl rfl rfl hc17 <| Plan.move_tuple rfl rfl <| Plan.extract_int rfl rfl rfl <| Plan.extract_int rfl rfl rfl <| Plan.fieldAddr0 FField.fld95_0 rfl rfl ?_
 refine Plan.storeC_int h15 2 rfl rfl rfl rfl FField.sz67 rfl fun w18 h18 => ?_
 simp only [zca, zna, zsz, zss] at h18
 refine Plan.nil (k16 _ _ ?_); clear k16
 refine W.seq_k fun _ k19 => W.regionT [(0, true), (1, false)] (by kernel_rfl) ?_
 refine Plan.loadA h18 rfl rfl (.cons 2 rfl (.cons 3 rfl .nil)) FField.agg95 ?_
 refine Plan.storeP (ps := [(1, fun _ => VU .u64 (xhi1 + x_10 + (BitVec.ofNat 64 ((xlo2.toNat + x_11.toNat + (0#64).toNat) / 2 ^ 64)))), (1, fun _ => VU .u64 (xlo2 + x_11 + (0#64)))]) h18 rfl rfl rfl (.cons 0 rfl (.cons 1 rfl .nil)) ⟨fun _ _ => rfl, fun _ _ => rfl, trivial⟩ FField.sz95 (EffO.wait rfl) fun w20 h20 => ?_
 simp only [zca, zna, zsz, zss] at h20
 refine Plan.nil (k19 _ _ ?_); clear k19
 refine W.ret (finR_ret ?_)
 have h21 := St.pickT (C := [_, _, _, _]) h20 [] (by decide)
 simp only [pick, zfc, zfn, zgz, zgs, zca, zna] at h21
 subst r
 refine RetOk.mk (.agg h20 rfl (.cons 0 rfl (.cons 1 rfl .nil)) FField.agg95 .nil) ?_
 exact ⟨rfl, h21⟩
theorem field_Elem_Mul_ok {B : Nat} {w0 w : World} {L : List Rg} {al1 : Nat → BitVec 64} {bl2 : Nat → BitVec 64} {r : (Nat → BitVec 64)} (hR : field_Elem_Mul al1 bl2 r) (HST : St B w0 (L) w) :
  Calls Tryd.prog 29 #[AG [(5, fun q => VU .u64 (al1 q))], AG [(5, fun q => VU .u64 (bl2 q))]] w fun e w' => e = .returned (AG [(5, fun q => VU .u64 (r q))]) ∧ St B w0 (L) w' := by
 refine W.enter 86 Tryd.func29 rfl rfl rfl ?_
 unfold field_Elem_Mul at hR
 refine W.seq_k fun _ k3 => W.regionT [(0, false), (1, false), (2, false)] (by kernel_rfl) ?_
 refine Plan.boxA HST rfl rfl PIn.nil fun b4 w4 hb4 h4 => ?_
 simp only [rngs, Nat.zero_add, Nat.reduceAdd, zca, zna] at h4
 refine Plan.boxA h4 rfl rfl PIn.nil fun b5 w5 hb5 h5 => ?_
 simp only [rngs, Nat.zero_add, Nat.reduceAdd, zca, zna] at h5
 refine Plan.alloc h5 rfl FField.z71 PIn.nil fun b6 w6 hb6 h6 => ?_
 simp only [rngs, Nat.zero_add, Nat.reduceAdd, zca, zna] at h6
 refine Plan.nil (k3 _ _ ?_); clear k3
 refine W.seq_k fun _ k7 => W.regionT [(0, false)] (by kernel_rfl) ?_
 refine Plan.alloc h6 rfl FField.z96 PIn.nil fun b8 w8 hb8 h8 => ?_
 simp only [rngs, Nat.zero_add, Nat.reduceAdd, zca, zna] at h8
 refine Plan.nil (k7 _ _ ?_); clear k7
 refine W.seq_k fun _ k9 => W.seq_k fun _ k10 => ?_
 refine W.regionT [(0, true)] (by kernel_rfl) ?_
 refine Plan.move_int rfl rfl <| Plan.nil (k10 _ _ ?_); clear k10
 obtain ⟨m163, hI164, hR0164⟩ := hR
 refine W.cutN (fun e w => ∃ y_m163 : Nat → BitVec 64, m163 = y_m163 ∧ EnvHas e [(4, .pointer (some ⟨b6, 0, none⟩)), (5, .pointer (some ⟨b8, 0, none⟩))] ∧ St B w0 (⟨some b8, 0, 10, fun q => VU .u64 (y_m163 q), true⟩ :: ⟨some b6, 0, 5, fun q => VU .u64 ((fun _ => 0#64) q), true⟩ :: L) w) ?_ ?_
 ·
  refine W.block ?_
  refine W.iter hI164 (fun (s164 : (Nat × (Nat → BitVec 64))) e w => EnvHas e [(2, .pointer (some ⟨b4, 0, none⟩)), (3, .pointer (some ⟨b5, 0, none⟩)), (4, .pointer (some ⟨b6, 0, none⟩)), (5, .pointer (some ⟨b8, 0, none⟩)), (16, VN s164.1)] ∧ St B w0 (⟨some b8, 0, 10, fun q => VU .u64 (s164.2 q), true⟩ :: ⟨some b6, 0, 5, fun q => VU .u64 ((fun _ => 0#64) q), true⟩ :: ⟨some b5, 0, 5, fun q => VU .u64 (bl2 q), true⟩ :: ⟨some b4, 0, 5, fun q => VU .u64 (al1 q), true⟩ :: L) w) ⟨(zer (zer (zer (zer (zer zen))))), h8⟩ ?_
  rintro ⟨t161, m162⟩ o164 hR hx164 ev165 wl165 ⟨he165, h165⟩
  obtain ⟨ev165, rfl⟩ := he165.open
  unfold field_Elem_Mul_l0 at hR
  refine W.seq_k fun _ k166 => W.regionT [(0, true)] (by kernel_rfl) ?_
  refine Plan.cmpP (a := (((t161 : Nat) : Int) : Int)) (b := (5 : Int)) (p := t161 < 5) rfl rfl rfl rfl icmp_ltN <| Plan.nil (k166 _ _ ?_); clear k166
  refine W.seq_k fun _ k167 => ?_
  by_cases hc168 : t161 < 5
  ·
   replace hR := ifT hR hc168
   refine W.condT (congrArg Value.bool (decide_eq_true hc168)) ?_
   refine W.skip ?_
   refine k167 _ _ ?_; clear k167
   refine W.seq_k fun _ k169 => ?_
   refine W.block ?_
   refine W.seq_k fun _ k170 => W.regionT [(0, true), (1, true)] (by kernel_rfl) ?_
   refine Plan.move_int rfl rfl <| Plan.assign_int rfl rfl <| Plan.nil (k170 _ _ ?_); clear k170
   refine W.seq_k fun _ k171 => W.regionT [(0, true)] (by kernel_rfl) ?_
   refine Plan.move_int rfl rfl <| Plan.nil (k171 _ _ ?_); clear k171
   obtain ⟨m216, hI217, hR0217⟩ := hR
   refine W.cutN (fun e w => ∃ y_m216 : Nat → BitVec 64, m216 = y_m216 ∧ EnvHas e [(2, .pointer (some ⟨b4, 0, none⟩)), (3, .pointer (some ⟨b5, 0, none⟩)), (4, .pointer (some ⟨b6, 0, none⟩)), (5, .pointer (some ⟨b8, 0, none⟩)), (16, VN t161)] ∧ St B w0 (⟨some b8, 0, 10, fun q => VU .u64 (y_m216 q), true⟩ :: ⟨some b6, 0, 5, fun q => VU .u64 ((fun _ => 0#64) q), true⟩ :: ⟨some b5, 0, 5, fun q => VU .u64 (bl2 q), true⟩ :: ⟨some b4, 0, 5, fun q => VU .u64 (al1 q), true⟩ :: L) w) ?_ ?_
   ·
    refine W.block ?_
    refine W.iter hI217 (fun (s217 : (Nat × (Nat → BitVec 64))) e w => EnvHas e [(2, .pointer (some ⟨b4, 0, none⟩)), (3, .pointer (some ⟨b5, 0, none⟩)), (4, .pointer (some ⟨b6, 0, none⟩)), (5, .pointer (some ⟨b8, 0, none⟩)), (6, VN t161), (16, VN t161), (19, VN s217.1)] ∧ St B w0 (⟨some b8, 0, 10, fun q => VU .u64 (s217.2 q), true⟩ :: ⟨some b6, 0, 5, fun q => VU .u64 ((fun _ => 0#64) q), true⟩ :: ⟨some b5, 0, 5, fun q => VU .u64 (bl2 q), true⟩ :: ⟨some b4, 0, 5, fun q => VU .u64 (al1 q), true⟩ :: L) w) ⟨(zer (zer (zer (zer (zer (zer (zer zen))))))), h165⟩ ?_
    rintro ⟨t214, m215⟩ o217 hR hx217 ev218 wl218 ⟨he218, h218⟩
    obtain ⟨ev218, rfl⟩ := he218.open
    unfold field_Elem_Mul_l1 at hR
    refine W.seq_k fun _ k219 => W.regionT [(0, true)] (by kernel_rfl) ?_
    refine Plan.cmpP (a := (((t214 : Nat) : Int) : Int)) (b := (5 : Int)) (p := t214 < 5) rfl rfl rfl rfl icmp_ltN <| Plan.nil (k219 _ _ ?_); clear k219
    refine W.seq_k fun _ k220 => ?_
    by_cases hc221 : t214 < 5
    ·
     replace hR := ifT hR hc221
     refine W.condT (congrArg Value.bool (decide_eq_true hc221)) ?_
     refine W.skip ?_
     refine k220 _ _ ?_; clear k220
     refine W.seq_k fun _ k222 => ?_
     refine W.block ?_
     refine W.seq_k fun _ k223 => W.regionT [(0, true), (1, true)] (by kernel_rfl) ?_
     refine Plan.move_int rfl rfl <| Plan.assign_int rfl rfl <| Plan.nil (k223 _ _ ?_); clear k223
     refine W.seq_k fun _ k224 => W.regionT [(0, true), (1, true), (2, true), (3, true), (4, true)] (by kernel_rfl) ?_
     refine Plan.move_int rfl rfl <| Plan.fieldAddr0 FField.fld71_0 rfl rfl <| Plan.idxArr1 (j := t214) FField.arr69 rfl rfl rfl (by omega) <| Plan.load1 (j := t214) h218 2 rfl rfl rfl (by omega) FField.sc67 <| Plan.assign_int rfl rfl <| Plan.nil (k224 _ _ ?_); clear k224
     refine W.seq_k fun _ k225 => ?_
     obtain ⟨y228, hX229, hR0229⟩ := hR
     refine W.cutN (fun e w => ∃ y_y228 : BitVec 64, (y228 = y_y228) ∧ EnvHas e [(2, .pointer (some ⟨b4, 0, none⟩)), (3, .pointer (some ⟨b5, 0, none⟩)), (4, .pointer (some ⟨b6, 0, none⟩)), (5, .pointer (some ⟨b8, 0, none⟩)), (6, VN t161), (7, VN t214), (8, VU .u64 y_y228), (16, VN t161), (19, VN t214)] ∧ St B w0 (⟨some b8, 0, 10, fun q => VU .u64 (m215 q), true⟩ :: ⟨some b6, 0, 5, fun q => VU .u64 ((fun _ => 0#64) q), true⟩ :: ⟨some b5, 0, 5, fun q => VU .u64 (bl2 q), true⟩ :: ⟨some b4, 0, 5, fun q => VU .u64 (al1 q), true⟩ :: L) w) ?_ ?_
     ·
      replace hR := hX229
      refine W.seq_k fun _ k230 => W.regionT [(0, true), (1, true), (2, true), (3, true)] (by kernel_rfl) ?_
      refine Plan.move_int rfl rfl <| Plan.move_int rfl rfl <| Plan.addN (a := t161) (b := t214) rfl rfl rfl (by omega) <| Plan.cmpP (a := ((((t161 + t214) : Nat) : Int) : Int)) (b := (5 : Int)) (p := 5 ≤ (t161 + t214)) rfl rfl rfl rfl icmp_geN <| Plan.nil (k230 _ _ ?_); clear k230
      by_cases hc231 : 5 ≤ (t161 + t214)
      ·
       replace hR := ifT hR hc231
       refine W.condT (congrArg Value.bool (decide_eq_true hc231)) ?_
       refine W.regionT [(0, true), (1, true), (2, true)] (by kernel_rfl) ?_
       refine Plan.move_int rfl rfl <| Plan.mulU .u64 (X := (bl2 t214)) (Y := 19#64) rfl rfl rfl <| Plan.assign_int rfl rfl <| Plan.nil ?_
       exact ⟨((bl2 t214) * (19#64)), hR, (zer (zer (zer (zer (zer (zer (zer (zer (zer zen))))))))), h218⟩
      ·
       replace hR := ifF hR hc231
       refine W.condF (congrArg Value.bool (decide_eq_false hc231)) ?_
       refine W.skip ?_
       exact ⟨(bl2 t214), hR, (zer (zer (zer (zer (zer (zer (zer (zer (zer zen))))))))), h218⟩
     ·
      rintro ev232 wl232 ⟨y_y228, hy232_0, he232, h232⟩
      subst hy232_0
      obtain ⟨ev232, rfl⟩ := he232.open
      replace hR := hR0229
      refine k225 _ _ ?_; clear k225
      refine W.regionD FField.mixed [(0, true), (1, true), (2, true), (3, true), (4, true), (5, true), (6, true), (7, true), (8, true), (9, true), (10, true), (11, true), (12, true), (13, true), (14, true), (15, false), (16, true), (17, false)] (by kernel_rfl) ?_
      have h233 := h232.drew
      refine Plan.move_int rfl rfl <| Plan.move_int rfl rfl <| Plan.addN (a := t161) (b := t214) rfl rfl rfl (by omega) <| Plan.remN (a := (t161 + t214)) (b := 5) rfl rfl rfl (by omega) <| Plan.move_int rfl rfl <| Plan.move_int rfl rfl <| Plan.addN (a := t161) (b := t214) rfl rfl rfl (by omega) <| Plan.remN (a := (t161 + t214)) (b := 5) rfl rfl rfl (by omega) ?_
      refine Plan.idxArrO (j := ((t161 + t214) % 5)) (o' := 0 + (((t161 + t214) % 5) * 2)) FField.arr96 rfl rfl rfl (by omega) (by omega) <| Plan.loadSub (m' := 2) h233 0 (((t161 + t214) % 5) * 2) rfl rfl rfl rfl (by omega) FField.agg95 <| Plan.move_int rfl rfl <| Plan.fieldAddr0 FField.fld71_0 rfl rfl <| Plan.idxArr1 (j := t161) FField.arr69 rfl rfl rfl (by omega) <| Plan.load1 (j := t161) h233 3 rfl rfl rfl (by omega) FField.sc67 <| Plan.move_int rfl rfl ?_
      obtain ⟨x_235, x_236, hr234, hR⟩ := hR
      refine Plan.call (vs := [AG [(1, fun _ => VU .u64 (m215 ((((t161 + t214) % 5) * 2) + 0))), (1, fun _ => VU .u64 (m215 ((((t161 + t214) % 5) * 2) + 1)))], VU .u64 (al1 t161), VU .u64 y228]) rfl FField.call41 rfl (field_long_plus_ok  hr234 h233) ?_
      rintro _ w237 ⟨rfl, h237⟩
      refine ⟨_, rfl, .inr ⟨rfl, ?_⟩⟩
      refine Plan.idxArrO (j := ((t161 + t214) % 5)) (o' := 0 + (((t161 + t214) % 5) * 2)) FField.arr96 rfl rfl rfl (by omega) (by omega) ?_
      refine Plan.storeSub (m' := 2) (j := ((t161 + t214) % 5) * 2) (f' := fun q => VU .u64 ((lit [x_235, x_236]) q)) h237 0 rfl rfl rfl rfl rfl (by omega) (fun _ _ => rfl) FField.sz95 (EffO.wait rfl) fun w238 h238 => ?_
      simp only [zca, zna, zsz, zss] at h238
      simp only [← spl_map (fun z => VU .u64 z)] at h238
      refine Plan.nil ?_
      refine blockR_norm ?_
      refine k222 _ _ ?_; clear k222
      refine W.regionT [(0, true), (1, true)] (by kernel_rfl) ?_
      refine Plan.addN (a := t214) (b := 1) rfl rfl rfl (by omega) <| Plan.move_int rfl rfl <| Plan.nil ?_
      exact iterR_norm ⟨_, hR, (zer (zer (zer (zer (zer (zer (zer zen))))))), h238⟩
    ·
     replace hR := ifF hR hc221
     refine W.condF (congrArg Value.bool (decide_eq_false hc221)) ?_
     refine W.exit (thenR_exit (iterR_exit (blockR_here ?_)))
     exact ⟨m215, (hx217 _ hR).symm, (zer (zer (zer (zer (zer zen))))), h218⟩
   ·
    rintro ev239 wl239 ⟨y_m216, hy239, he239, h239⟩
    obtain ⟨ev239, rfl⟩ := he239.open
    subst hy239
    replace hR := hR0217
    refine blockR_norm ?_
    refine k169 _ _ ?_; clear k169
    refine W.regionT [(0, true), (1, true)] (by kernel_rfl) ?_
    refine Plan.addN (a := t161) (b := 1) rfl rfl rfl (by omega) <| Plan.move_int rfl rfl <| Plan.nil ?_
    exact iterR_norm ⟨_, hR, (zer (zer (zer (zer (zer zen))))), h239⟩
  ·
   replace hR := ifF hR hc168
   refine W.condF (congrArg Value.bool (decide_eq_false hc168)) ?_
   refine W.exit (thenR_exit (iterR_exit (blockR_here ?_)))
   have h240 := St.pickT (C := [_, _, _, _]) h165 [0, 1] (by decide)
   simp only [pick, zfc, zfn, zgz, zgs, zca, zna] at h240
   exact ⟨m162, (hx164 _ hR).symm, (zer (zer zen)), h240⟩
 ·
  rintro ev241 wl241 ⟨y_m163, hy241, he241, h241⟩
  obtain ⟨ev241, rfl⟩ := he241.open
  subst hy241
  replace hR := hR0164
  refine k9 _ _ ?_; clear k9
  refine W.seq_k fun _ k242 => W.regionT [(0, false)] (by kernel_rfl) ?_
  refine Plan.alloc h241 rfl FField.z69 PIn.nil fun b243 w243 hb243 h243 => ?_
  simp only [rngs, Nat.zero_add, Nat.reduceAdd, zca, zna] at h243
  refine Plan.nil (k242 _ _ ?_); clear k242
  refine W.seq_k fun _ k244 => W.regionT [(0, true)] (by kernel_rfl) ?_
  refine Plan.assign_int rfl rfl <| Plan.nil (k244 _ _ ?_); clear k244
  refine W.seq_k fun _ k245 => W.seq_k fun _ k246 => ?_
  refine W.regionT [(0, true), (1, true)] (by kernel_rfl) ?_
  refine Plan.loadA1 h243 1 rfl rfl rfl FField.agg96 <| Plan.move_int rfl rfl <| Plan.nil (k246 _ _ ?_); clear k246
  obtain ⟨c275, m276, hI277, hR0277⟩ := hR
  refine W.cutN (fun e w => ∃ y_c275 : BitVec 64, ∃ y_m276 : Nat → BitVec 64, (c275, m276) = (y_c275, y_m276) ∧ EnvHas e [(4, .pointer (some ⟨b6, 0, none⟩)), (9, .pointer (some ⟨b243, 0, none⟩)), (10, VU .u64 y_c275)] ∧ St B w0 (⟨some b243, 0, 5, fun q => VU .u64 (y_m276 q), true⟩ :: ⟨some b6, 0, 5, fun q => VU .u64 ((fun _ => 0#64) q), true⟩ :: L) w) ?_ ?_
  ·
   refine W.block ?_
   have h278 := St.pickT (C := [_, _, _]) h243 [0, 2] (by decide)
   simp only [pick, zfc, zfn, zgz, zgs, zca, zna] at h278
   refine W.iter hI277 (fun (s277 : ((BitVec 64) × Nat × (Nat → BitVec 64))) e w => EnvHas e [(4, .pointer (some ⟨b6, 0, none⟩)), (9, .pointer (some ⟨b243, 0, none⟩)), (10, VU .u64 s277.1), (51, AG [(10, fun q => VU .u64 (m163 q))]), (52, VN s277.2.1)] ∧ St B w0 (⟨some b243, 0, 5, fun q => VU .u64 (s277.2.2 q), true⟩ :: ⟨some b6, 0, 5, fun q => VU .u64 ((fun _ => 0#64) q), true⟩ :: L) w) ⟨(zer (zer (zer (zer (zer zen))))), h278⟩ ?_
   rintro ⟨c272, t273, m274⟩ o277 hR hx277 ev279 wl279 ⟨he279, h279⟩
   obtain ⟨ev279, rfl⟩ := he279.open
   unfold field_Elem_Mul_l2 at hR
   refine W.seq_k fun _ k280 => W.regionT [(0, true)] (by kernel_rfl) ?_
   refine Plan.cmpP (a := (((t273 : Nat) : Int) : Int)) (b := (5 : Int)) (p := t273 < 5) rfl rfl rfl rfl icmp_ltN <| Plan.nil (k280 _ _ ?_); clear k280
   refine W.seq_k fun _ k281 => ?_
   by_cases hc282 : t273 < 5
   ·
    replace hR := ifT hR hc282
    refine W.condT (congrArg Value.bool (decide_eq_true hc282)) ?_
    refine W.skip ?_
    refine k281 _ _ ?_; clear k281
    refine W.seq_k fun _ k283 => ?_
    refine W.block ?_
    refine W.seq_k fun _ k284 => W.regionT [(0, true), (1, true), (2, false), (3, true), (4, false)] (by kernel_rfl) ?_
    refine Plan.move_int rfl rfl <| Plan.indexAA (j := t273) (sz := 2) FField.isarr96 FField.agg95 rfl rfl rfl (by omega) (by decide) ?_
    refine Plan.alloc h279 rfl FField.z95 PIn.nil fun b285 w285 hb285 h285 => ?_
    simp only [rngs, Nat.zero_add, Nat.reduceAdd, zca, zna] at h285
    refine Plan.assign_int rfl rfl ?_
    refine Plan.storeP (ps := [(1, fun _ => VU .u64 (m163 (t273 * 2 + 0))), (1, fun _ => VU .u64 (m163 (t273 * 2 + 1)))]) h285 rfl rfl rfl (.cons 0 rfl (.cons 1 rfl .nil)) ⟨fun _ _ => rfl, fun _ _ => rfl, trivial⟩ FField.sz95 (EffO.keep PIn.nil) fun w286 h286 => ?_
    simp only [zca, zna, zsz, zss] at h286
    refine Plan.nil (k284 _ _ ?_); clear k284
    refine W.seq_k fun _ k287 => W.regionT [(0, true), (1, true), (2, true), (3, false), (4, true), (5, true), (6, true), (7, true), (8, true)] (by kernel_rfl) ?_
    refine Plan.fieldAddr 1 FField.fld95_1 rfl rfl <| Plan.load0 h286 1 rfl rfl rfl (by omega) FField.sc67 <| Plan.move_int rfl rfl <| Plan.add64 (X := (m163 (t273 * 2 + 1))) (Y := c272) (C := 0#64) Tryd.func42 rfl rfl rfl rfl rfl rfl rfl rfl (by decide) <| Plan.move_tuple rfl rfl <| Plan.extract_int rfl rfl rfl <| Plan.extract_int rfl rfl rfl <| Plan.assign_int rfl rfl ?_
    refine Plan.assign_int rfl rfl <| Plan.nil (k287 _ _ ?_); clear k287
    refine W.seq_k fun _ k288 => W.regionT [(0, true), (1, true), (2, true), (3, true), (4, true)] (by kernel_rfl) ?_
    refine Plan.fieldAddr0 FField.fld95_0 rfl rfl <| Plan.load0 h286 0 rfl rfl rfl (by omega) FField.sc67 <| Plan.move_int rfl rfl <| Plan.addU .u64 (X := (m163 (t273 * 2 + 0))) (Y := (BitVec.ofNat 64 (((m163 (t273 * 2 + 1)).toNat + c272.toNat + (0#64).toNat) / 2 ^ 64))) rfl rfl rfl <| Plan.assign_int rfl rfl <| Plan.nil (k288 _ _ ?_); clear k288
    refine W.seq_k fun _ k289 => W.regionT [(0, true), (1, true), (2, true), (3, true), (4, false)] (by kernel_rfl) ?_
    refine Plan.move_int rfl rfl <| Plan.move_int rfl rfl <| Plan.andU .u64 (X := ((m163 (t273 * 2 + 1)) + c272 + (0#64))) (Y := 2251799813685247#64) rfl rfl rfl <| Plan.idxArr1 (j := t273) FField.arr69 rfl rfl rfl (by omega) ?_
    refine Plan.storeU (j := t273) (X := (((m163 (t273 * 2 + 1)) + c272 + (0#64)) &&& (2251799813685247#64))) h286 2 rfl rfl rfl rfl (by omega) FField.sz67 rfl fun w290 h290 => ?_
    simp only [zca, zna, zsz, zss] at h290
    refine Plan.nil (k289 _ _ ?_); clear k289
    refine W.regionT [(0, true), (1, true), (2, true), (3, true), (4, true), (5, true)] (by kernel_rfl) ?_
    refine Plan.move_int rfl rfl <| Plan.shlU .u64 (X := ((m163 (t273 * 2 + 0)) + (BitVec.ofNat 64 (((m163 (t273 * 2 + 1)).toNat + c272.toNat + (0#64).toNat) / 2 ^ 64)))) (c := 13) rfl rfl rfl <| Plan.move_int rfl rfl <| Plan.shrU .u64 (X := ((m163 (t273 * 2 + 1)) + c272 + (0#64))) (c := 51) rfl rfl rfl <| Plan.orU .u64 (X := (((m163 (t273 * 2 + 0)) + (BitVec.ofNat 64 (((m163 (t273 * 2 + 1)).toNat + c272.toNat + (0#64).toNat) / 2 ^ 64))) <<< 13)) (Y := (((m163 (t273 * 2 + 1)) + c272 + (0#64)) >>> 51)) rfl rfl rfl <| Plan.assign_int rfl rfl <| Plan.nil ?_
    refine blockR_norm ?_
    refine k283 _ _ ?_; clear k283
    refine W.regionT [(0, true), (1, true)] (by kernel_rfl) ?_
    refine Plan.addN (a := t273) (b := 1) rfl rfl rfl (by omega) <| Plan.move_int rfl rfl <| Plan.nil ?_
    have h291 := St.pickT (C := [_, _, _, _]) h290 [2, 3] (by decide)
    simp only [pick, zfc, zfn, zgz, zgs, zca, zna] at h291
    exact iterR_norm ⟨_, hR, (zer (zer (zer (zer (zer zen))))), h291⟩
   ·
    replace hR := ifF hR hc282
    refine W.condF (congrArg Value.bool (decide_eq_false hc282)) ?_
    refine W.exit (thenR_exit (iterR_exit (blockR_here ?_)))
    exact ⟨c272, m274, (hx277 _ hR).symm, (zer (zer (zer zen))), h279⟩
  ·
   rintro ev292 wl292 ⟨y_c275, y_m276, hy292, he292, h292⟩
   obtain ⟨ev292, rfl⟩ := he292.open
   cases hy292
   replace hR := hR0277
   refine k245 _ _ ?_; clear k245
   refine W.seq_k fun _ k293 => W.regionT [(0, true), (1, true), (2, true), (3, true), (4, true), (5, true), (6, false)] (by kernel_rfl) ?_
   refine Plan.idxArr1 (j := 0) FField.arr69 rfl rfl rfl (by omega) <| Plan.load1 (j := 0) h292 0 rfl rfl rfl (by omega) FField.sc67 <| Plan.move_int rfl rfl <| Plan.mulU .u64 (X := 19#64) (Y := c275) rfl rfl rfl <| Plan.addU .u64 (X := (m276 0)) (Y := ((19#64) * c275)) rfl rfl rfl <| Plan.idxArr1 (j := 0) FField.arr69 rfl rfl rfl (by omega) ?_
   refine Plan.storeU (j := 0) (X := ((m276 0) + ((19#64) * c275))) h292 0 rfl rfl rfl rfl (by omega) FField.sz67 rfl fun w294 h294 => ?_
   simp only [zca, zna, zsz, zss] at h294
   refine Plan.nil (k293 _ _ ?_); clear k293
   refine W.seq_k fun _ k295 => W.regionT [(0, true), (1, false), (2, true), (3, false)] (by kernel_rfl) ?_
   refine Plan.loadA1 h294 0 rfl rfl rfl FField.agg69 ?_
   obtain ⟨x_297, hr296, hR⟩ := hR
   refine Plan.call (vs := [AG [(5, fun q => VU .u64 ((upd m276 0 ((m276 0) + ((19#64) * c275))) q))]]) rfl FField.call43 rfl (field_limbs_carried_ok  hr296 h294) ?_
   rintro _ w298 ⟨rfl, h298⟩
   refine ⟨_, rfl, .inr ⟨rfl, ?_⟩⟩
   refine Plan.buildP (ps := [(5, fun q => VU .u64 (x_297 q))]) FField.pl71 (by decide) FField.z71 rfl rfl (.agg [] [(5, fun q => VU .u64 ((fun _ => 0#64) q))] [] [(5, fun q => VU .u64 (x_297 q))] rfl rfl .nil) ?_
   refine Plan.storeA (f' := fun q => VU .u64 (x_297 q)) h298 1 rfl rfl rfl rfl (fun _ _ => rfl) FField.sz71 rfl fun w299 h299 => ?_
   simp only [zca, zna, zsz, zss] at h299
   refine Plan.nil (k295 _ _ ?_); clear k295
   refine W.ret (finR_ret ?_)
   have h300 := St.pickT (C := [_, _]) h299 [] (by decide)
   simp only [pick, zfc, zfn, zgz, zgs, zca, zna] at h300
   subst r
   refine RetOk.mk (.agg h299 rfl (.cons 1 rfl .nil) FField.agg71 .nil) ?_
   exact ⟨rfl, h300⟩
theorem field_Elem_Square_ok {B : Nat} {w0 w : World} {L : List Rg} {al1 : Nat → BitVec 64} {r : (Nat → BitVec 64)} (hR : field_Elem_Square al1 r) (HST : St B w0 (L) w) :
  Calls Tryd.prog 40 #[AG [(5, fun q => VU .u64 (al1 q))]] w fun e w' => e = .returned (AG [(5, fun q => VU .u64 (r q))]) ∧ St B w0 (L) w' := by
 refine W.enter 6 Tryd.func40 rfl rfl rfl ?_
 unfold field_Elem_Square at hR
 refine W.seq_k fun _ k2 => W.regionT [(0, false), (1, false)] (by kernel_rfl) ?_
 refine Plan.boxA HST rfl rfl PIn.nil fun b3 w3 hb3 h3 => ?_
 simp only [rngs, Nat.zero_add, Nat.reduceAdd, zca, zna] at h3
 refine Plan.alloc h3 rfl FField.z71 PIn.nil fun b4 w4 hb4 h4 => ?_
 simp only [rngs, Nat.zero_add, Nat.reduceAdd, zca, zna] at h4
 refine Plan.nil (k2 _ _ ?_); clear k2
 refine W.seq_k fun _ k5 => W.regionT [(0, true), (1, true), (2, false), (3, false)] (by kernel_rfl) ?_
 refine Plan.loadA1 h4 1 rfl rfl rfl FField.agg71 <| Plan.loadA1 h4 1 rfl rfl rfl FField.agg71 ?_
 obtain ⟨x_7, hr6, hR⟩ := hR
 refine Plan.call (vs := [AG [(5, fun q => VU .u64 (al1 q))], AG [(5, fun q => VU .u64 (al1 q))]]) rfl FField.call29 rfl (field_Elem_Mul_ok  hr6 h4) ?_
 rintro _ w8 ⟨rfl, h8⟩
 refine ⟨_, rfl, .inr ⟨rfl, ?_⟩⟩
 refine Plan.storeA (f' := fun q => VU .u64 (x_7 q)) h8 0 rfl rfl rfl rfl (fun _ _ => rfl) FField.sz71 rfl fun w9 h9 => ?_
 simp only [zca, zna, zsz, zss] at h9
 refine Plan.nil (k5 _ _ ?_); clear k5
 refine W.ret (finR_ret ?_)
 have h10 := St.pickT (C := [_, _]) h9 [] (by decide)
 simp only [pick, zfc, zfn, zgz, zgs, zca, zna] at h10
 subst r
 refine RetOk.mk (.agg h9 rfl (.cons 0 rfl .nil) FField.agg71 .nil) ?_
 exact ⟨rfl, h10⟩
theorem field_exponent_ok {B : Nat} {w0 w : World} {L : List Rg} {first1 : BitVec 8} {last2 : BitVec 8} {r : (Nat → BitVec 8)} (hR : field_exponent first1 last2 r) (HST : St B w0 (L) w) :
  Calls Tryd.prog 45 #[VU .u8 first1, VU .u8 last2] w fun e w' => e = .returned (AG [(32, fun q => VU .u8 (r q))]) ∧ St B w0 (L) w' := by
 refine W.enter 18 Tryd.func45 rfl rfl rfl ?_
 unfold field_exponent at hR
 refine W.seq_k fun _ k3 => W.regionT [(0, false)] (by kernel_rfl) ?_
 refine Plan.alloc HST rfl FField.z23 PIn.nil fun b4 w4 hb4 h4 => ?_
 simp only [rngs, Nat.zero_add, Nat.reduceAdd, zca, zna] at h4
 refine Plan.nil (k3 _ _ ?_); clear k3
 refine W.seq_k fun _ k5 => W.regionT [(0, false)] (by kernel_rfl) ?_
 refine Plan.alloc h4 rfl FField.z23 PIn.nil fun b6 w6 hb6 h6 => ?_
 simp only [rngs, Nat.zero_add, Nat.reduceAdd, zca, zna] at h6
 refine Plan.nil (k5 _ _ ?_); clear k5
 refine W.seq_k fun _ k7 => W.seq_k fun _ k8 => ?_
 refine W.regionT [(0, true)] (by kernel_rfl) ?_
 refine Plan.move_int rfl rfl <| Plan.nil (k8 _ _ ?_); clear k8
 obtain ⟨m25, hI26, hR026⟩ := hR
 refine W.cutN (fun e w => ∃ y_m25 : Nat → BitVec 8, m25 = y_m25 ∧ EnvHas e [(0, VU .u8 first1), (1, VU .u8 last2), (4, .pointer (some ⟨b4, 0, none⟩)), (5, .pointer (some ⟨b6, 0, none⟩))] ∧ St B w0 (⟨some b6, 0, 32, fun q => VU .u8 (y_m25 q), true⟩ :: ⟨some b4, 0, 32, fun q => VU .u8 ((fun _ => 0#8) q), true⟩ :: L) w) ?_ ?_
 ·
  refine W.block ?_
  refine W.iter hI26 (fun (s26 : (Nat × (Nat → BitVec 8))) e w => EnvHas e [(0, VU .u8 first1), (1, VU .u8 last2), (4, .pointer (some ⟨b4, 0, none⟩)), (5, .pointer (some ⟨b6, 0, none⟩)), (7, VN s26.1)] ∧ St B w0 (⟨some b6, 0, 32, fun q => VU .u8 (s26.2 q), true⟩ :: ⟨some b4, 0, 32, fun q => VU .u8 ((fun _ => 0#8) q), true⟩ :: L) w) ⟨(zer (zer (zer (zer (zer zen))))), h6⟩ ?_
  rintro ⟨t23, m24⟩ o26 hR hx26 ev27 wl27 ⟨he27, h27⟩
  obtain ⟨ev27, rfl⟩ := he27.open
  unfold field_exponent_l0 at hR
  refine W.seq_k fun _ k28 => W.regionT [(0, true)] (by kernel_rfl) ?_
  refine Plan.cmpP (a := (((t23 : Nat) : Int) : Int)) (b := (32 : Int)) (p := t23 < 32) rfl rfl rfl rfl icmp_ltN <| Plan.nil (k28 _ _ ?_); clear k28
  refine W.seq_k fun _ k29 => ?_
  by_cases hc30 : t23 < 32
  ·
   replace hR := ifT hR hc30
   refine W.condT (congrArg Value.bool (decide_eq_true hc30)) ?_
   refine W.skip ?_
   refine k29 _ _ ?_; clear k29
   refine W.seq_k fun _ k31 => ?_
   refine W.block ?_
   refine W.seq_k fun _ k32 => W.regionT [(0, true), (1, true)] (by kernel_rfl) ?_
   refine Plan.move_int rfl rfl <| Plan.assign_int rfl rfl <| Plan.nil (k32 _ _ ?_); clear k32
   refine W.regionT [(0, true), (1, true), (2, false)] (by kernel_rfl) ?_
   refine Plan.move_int rfl rfl <| Plan.idxArr1 (j := t23) FField.arr23 rfl rfl rfl (by omega) ?_
   refine Plan.storeU (j := t23) (X := 255#8) h27 0 rfl rfl rfl rfl (by omega) FField.sz5 rfl fun w33 h33 => ?_
   simp only [zca, zna, zsz, zss] at h33
   refine Plan.nil ?_
   refine blockR_norm ?_
   refine k31 _ _ ?_; clear k31
   refine W.regionT [(0, true), (1, true)] (by kernel_rfl) ?_
   refine Plan.addN (a := t23) (b := 1) rfl rfl rfl (by omega) <| Plan.move_int rfl rfl <| Plan.nil ?_
   exact iterR_norm ⟨_, hR, (zer (zer (zer (zer (zer zen))))), h33⟩
  ·
   replace hR := ifF hR hc30
   refine W.condF (congrArg Value.bool (decide_eq_false hc30)) ?_
   refine W.exit (thenR_exit (iterR_exit (blockR_here ?_)))
   exact ⟨m24, (hx26 _ hR).symm, (zer (zer (zer (zer zen)))), h27⟩
 ·
  rintro ev34 wl34 ⟨y_m25, hy34, he34, h34⟩
  obtain ⟨ev34, rfl⟩ := he34.open
  subst hy34
  replace hR := hR026
  refine k7 _ _ ?_; clear k7
  refine W.seq_k fun _ k35 => W.regionT [(0, true), (1, true), (2, true), (3, false), (4, true), (5, false)] (by kernel_rfl) ?_
  refine Plan.move_int rfl rfl <| Plan.move_int rfl rfl <| Plan.idxArr1 (j := 0) FField.arr23 rfl rfl rfl (by omega) ?_
  refine Plan.storeU (j := 0) (X := first1) h34 0 rfl rfl rfl rfl (by omega) FField.sz5 rfl fun w36 h36 => ?_
  simp only [zca, zna, zsz, zss] at h36
  refine Plan.idxArr1 (j := 31) FField.arr23 rfl rfl rfl (by omega) ?_
  refine Plan.storeU (j := 31) (X := last2) h36 0 rfl rfl rfl rfl (by omega) FField.sz5 rfl fun w37 h37 => ?_
  simp only [zca, zna, zsz, zss] at h37
  refine Plan.nil (k35 _ _ ?_); clear k35
  refine W.seq_k fun _ k38 => W.regionT [(0, true), (1, false)] (by kernel_rfl) ?_
  refine Plan.loadA1 h37 0 rfl rfl rfl FField.agg23 ?_
  refine Plan.storeA (f' := fun q => VU .u8 ((upd (upd m25 0 first1) 31 last2) q)) h37 1 rfl rfl rfl rfl (fun _ _ => rfl) FField.sz23 rfl fun w39 h39 => ?_
  simp only [zca, zna, zsz, zss] at h39
  refine Plan.nil (k38 _ _ ?_); clear k38
  refine W.ret (finR_ret ?_)
  have h40 := St.pickT (C := [_, _]) h39 [] (by decide)
  simp only [pick, zfc, zfn, zgz, zgs, zca, zna] at h40
  subst r
  refine RetOk.mk (.agg h39 rfl (.cons 1 rfl .nil) FField.agg23 .nil) ?_
  exact ⟨rfl, h40⟩
theorem field_Elem_Pow_ok {B : Nat} {w0 w : World} {L : List Rg} {al1 : Nat → BitVec 64} {n_2 : Nat → BitVec 8} {r : (Nat → BitVec 64)} (hR : field_Elem_Pow al1 n_2 r) (HST : St B w0 (L) w) :
  Calls Tryd.prog 44 #[AG [(5, fun q => VU .u64 (al1 q))], AG [(32, fun q => VU .u8 (n_2 q))]] w fun e w' => e = .returned (AG [(5, fun q => VU .u64 (r q))]) ∧ St B w0 (L) w' := by
 refine W.enter 27 Tryd.func44 rfl rfl rfl ?_
 unfold field_Elem_Pow at hR
 refine W.seq_k fun _ k3 => W.regionT [(0, false), (1, false), (2, false)] (by kernel_rfl) ?_
 refine Plan.boxA HST rfl rfl PIn.nil fun b4 w4 hb4 h4 => ?_
 simp only [rngs, Nat.zero_add, Nat.reduceAdd, zca, zna] at h4
 refine Plan.boxA h4 rfl rfl PIn.nil fun b5 w5 hb5 h5 => ?_
 simp only [rngs, Nat.zero_add, Nat.reduceAdd, zca, zna] at h5
 refine Plan.alloc h5 rfl FField.z71 PIn.nil fun b6 w6 hb6 h6 => ?_
 simp only [rngs, Nat.zero_add, Nat.reduceAdd, zca, zna] at h6
 refine Plan.nil (k3 _ _ ?_); clear k3
 refine W.seq_k fun _ k7 => W.regionT [(0, false), (1, false), (2, false)] (by kernel_rfl) ?_
 obtain ⟨x_9, hr8, hR⟩ := hR
 refine Plan.call (vs := [VU .u32 (1#32)]) rfl FField.call26 rfl (field_Small_ok  hr8 h6) ?_
 rintro _ w10 ⟨rfl, h10⟩
 refine ⟨_, rfl, .inl ⟨PIn.keep PIn.nil h10, ?_⟩⟩
 refine Plan.alloc h10 rfl FField.z71 PIn.nil fun b11 w11 hb11 h11 => ?_
 simp only [rngs, Nat.zero_add, Nat.reduceAdd, zca, zna] at h11
 refine Plan.storeA (f' := fun q => VU .u64 (x_9 q)) h11 0 rfl rfl rfl rfl (fun _ _ => rfl) FField.sz71 rfl fun w12 h12 => ?_
 simp only [zca, zna, zsz, zss] at h12
 refine Plan.nil (k7 _ _ ?_); clear k7
 refine W.seq_k fun _ k13 => W.seq_k fun _ k14 => ?_
 refine W.regionT [(0, true)] (by kernel_rfl) ?_
 refine Plan.assign_int rfl rfl <| Plan.nil (k14 _ _ ?_); clear k14
 obtain ⟨m76, hI77, hR077⟩ := hR
 refine W.cutN (fun e w => ∃ y_m76 : Nat → BitVec 64, m76 = y_m76 ∧ EnvHas e [(4, .pointer (some ⟨b6, 0, none⟩)), (5, .pointer (some ⟨b11, 0, none⟩))] ∧ St B w0 (⟨some b11, 0, 5, fun q => VU .u64 (y_m76 q), true⟩ :: ⟨some b6, 0, 5, fun q => VU .u64 ((fun _ => 0#64) q), true⟩ :: L) w) ?_ ?_
 ·
  refine W.block ?_
  refine W.iter hI77 (fun (s77 : (Int × (Nat → BitVec 64))) e w => EnvHas e [(2, .pointer (some ⟨b4, 0, none⟩)), (3, .pointer (some ⟨b5, 0, none⟩)), (4, .pointer (some ⟨b6, 0, none⟩)), (5, .pointer (some ⟨b11, 0, none⟩)), (6, .int .i64 s77.1)] ∧ St B w0 (⟨some b11, 0, 5, fun q => VU .u64 (s77.2 q), true⟩ :: ⟨some b6, 0, 5, fun q => VU .u64 ((fun _ => 0#64) q), true⟩ :: ⟨some b5, 0, 32, fun q => VU .u8 (n_2 q), true⟩ :: ⟨some b4, 0, 5, fun q => VU .u64 (al1 q), true⟩ :: L) w) ⟨(zer (zer (zer (zer (zer zen))))), h12⟩ ?_
  rintro ⟨bit74, m75⟩ o77 hR hx77 ev78 wl78 ⟨he78, h78⟩
  obtain ⟨ev78, rfl⟩ := he78.open
  unfold field_Elem_Pow_l0 at hR
  refine W.seq_k fun _ k79 => W.seq_k fun _ k80 => ?_
  refine W.regionT [(0, true), (1, true)] (by kernel_rfl) ?_
  refine Plan.move_int rfl rfl <| Plan.cmpP (a := (bit74 : Int)) (b := (0 : Int)) (p := 0 ≤ bit74) rfl rfl rfl rfl icmp_ge <| Plan.nil (k80 _ _ ?_); clear k80
  by_cases hc81 : 0 ≤ bit74
  ·
   replace hR := ifT hR hc81
   refine W.condT (congrArg Value.bool (decide_eq_true hc81)) ?_
   refine W.skip ?_
   refine k79 _ _ ?_; clear k79
   refine W.seq_k fun _ k82 => ?_
   refine W.block ?_
   refine W.seq_k fun _ k83 => W.regionT [(0, true), (1, false), (2, false)] (by kernel_rfl) ?_
   refine Plan.loadA1 h78 0 rfl rfl rfl FField.agg71 ?_
   obtain ⟨x_85, hr84, hR⟩ := hR
   refine Plan.call (vs := [AG [(5, fun q => VU .u64 (m75 q))]]) rfl FField.call40 rfl (field_Elem_Square_ok  hr84 h78) ?_
   rintro _ w86 ⟨rfl, h86⟩
   refine ⟨_, rfl, .inr ⟨rfl, ?_⟩⟩
   refine Plan.storeA (f' := fun q => VU .u64 (x_85 q)) h86 0 rfl rfl rfl rfl (fun _ _ => rfl) FField.sz71 rfl fun w87 h87 => ?_
   simp only [zca, zna, zsz, zss] at h87
   refine Plan.nil (k83 _ _ ?_); clear k83
   refine W.seq_k fun _ k88 => W.regionT [(0, true), (1, true), (2, true), (3, true), (4, true), (5, true), (6, true), (7, true), (8, true)] (by kernel_rfl) ?_
   refine Plan.move_int rfl rfl ?_
   obtain ⟨hc89, hR⟩ := hR
   refine Plan.quoIw (a := bit74) (b := 8) rfl rfl rfl (by omega) hc89 ?_
   obtain ⟨hc90, hR⟩ := hR
   refine Plan.idxArr1 (j := (bit74.tdiv 8).toNat) FField.arr23 rfl rfl (congrArg (Value.int .i64) (Int.toNat_of_nonneg hc90.1).symm) (by omega) <| Plan.load1 (j := (bit74.tdiv 8).toNat) h87 2 rfl rfl rfl (by omega) FField.sc5 <| Plan.move_int rfl rfl ?_
   have hb91 := tmod_bd bit74 (c := 8) (by decide)
   refine Plan.remI (a := bit74) (b := 8) rfl rfl rfl (by omega) ?_
   obtain ⟨hc92, hR⟩ := hR
   refine Plan.shrU .u8 (X := (n_2 ((bit74.tdiv 8).toNat))) (c := (bit74.tmod 8).toNat) rfl rfl (congrArg (Value.int .i64) (Int.toNat_of_nonneg hc92).symm) <| Plan.andU .u8 (X := ((n_2 ((bit74.tdiv 8).toNat)) >>> ((bit74.tmod 8).toNat))) (Y := 1#8) rfl rfl rfl <| Plan.cmpP (a := ((((n_2 ((bit74.tdiv 8).toNat)) >>> ((bit74.tmod 8).toNat)) &&& (1#8)).toNat : Int)) (b := ((1#8).toNat : Int)) (p := (((n_2 ((bit74.tdiv 8).toNat)) >>> ((bit74.tmod 8).toNat)) &&& (1#8)) = 1#8) rfl rfl rfl rfl icmp_eqU <| Plan.nil (k88 _ _ ?_); clear k88
   by_cases hc93 : (((n_2 ((bit74.tdiv 8).toNat)) >>> ((bit74.tmod 8).toNat)) &&& (1#8)) = 1#8
   ·
    replace hR := ifT hR hc93
    refine W.condT (congrArg Value.bool (decide_eq_true hc93)) ?_
    refine W.regionT [(0, true), (1, true), (2, false), (3, false)] (by kernel_rfl) ?_
    refine Plan.loadA1 h87 0 rfl rfl rfl FField.agg71 <| Plan.loadA1 h87 3 rfl rfl rfl FField.agg71 ?_
    obtain ⟨x_95, hr94, hR⟩ := hR
    refine Plan.call (vs := [AG [(5, fun q => VU .u64 (x_85 q))], AG [(5, fun q => VU .u64 (al1 q))]]) rfl FField.call29 rfl (field_Elem_Mul_ok  hr94 h87) ?_
    rintro _ w96 ⟨rfl, h96⟩
    refine ⟨_, rfl, .inr ⟨rfl, ?_⟩⟩
    refine Plan.storeA (f' := fun q => VU .u64 (x_95 q)) h96 0 rfl rfl rfl rfl (fun _ _ => rfl) FField.sz71 rfl fun w97 h97 => ?_
    simp only [zca, zna, zsz, zss] at h97
    refine Plan.nil ?_
    refine blockR_norm ?_
    refine k82 _ _ ?_; clear k82
    refine W.regionT [(0, true), (1, true), (2, true)] (by kernel_rfl) ?_
    refine Plan.move_int rfl rfl ?_
    obtain ⟨hc98, hR⟩ := hR
    refine Plan.subI (a := bit74) (b := 1) rfl rfl rfl (by omega) <| Plan.assign_int rfl rfl <| Plan.nil ?_
    exact iterR_norm ⟨_, hR, (zer (zer (zer (zer (zer zen))))), h97⟩
   ·
    replace hR := ifF hR hc93
    refine W.condF (congrArg Value.bool (decide_eq_false hc93)) ?_
    refine W.skip ?_
    refine blockR_norm ?_
    refine k82 _ _ ?_; clear k82
    refine W.regionT [(0, true), (1, true), (2, true)] (by kernel_rfl) ?_
    refine Plan.move_int rfl rfl ?_
    obtain ⟨hc99, hR⟩ := hR
    refine Plan.subI (a := bit74) (b := 1) rfl rfl rfl (by omega) <| Plan.assign_int rfl rfl <| Plan.nil ?_
    exact iterR_norm ⟨_, hR, (zer (zer (zer (zer (zer zen))))), h87⟩
  ·
   replace hR := ifF hR hc81
   refine W.condF (congrArg Value.bool (decide_eq_false hc81)) ?_
   refine W.exit (thenR_exit (iterR_exit (blockR_here ?_)))
   have h100 := St.pickT (C := [_, _, _, _]) h78 [0, 1] (by decide)
   simp only [pick, zfc, zfn, zgz, zgs, zca, zna] at h100
   exact ⟨m75, (hx77 _ hR).symm, (zer (zer zen)), h100⟩
 ·
  rintro ev101 wl101 ⟨y_m76, hy101, he101, h101⟩
  obtain ⟨ev101, rfl⟩ := he101.open
  subst hy101
  replace hR := hR077
  refine k13 _ _ ?_; clear k13
  refine W.seq_k fun _ k102 => W.regionT [(0, true), (1, false)] (by kernel_rfl) ?_
  refine Plan.loadA1 h101 0 rfl rfl rfl FField.agg71 ?_
  refine Plan.storeA (f' := fun q => VU .u64 (m76 q)) h101 1 rfl rfl rfl rfl (fun _ _ => rfl) FField.sz71 rfl fun w103 h103 => ?_
  simp only [zca, zna, zsz, zss] at h103
  refine Plan.nil (k102 _ _ ?_); clear k102
  refine W.ret (finR_ret ?_)
  have h104 := St.pickT (C := [_, _]) h103 [] (by decide)
  simp only [pick, zfc, zfn, zgz, zgs, zca, zna] at h104
  subst r
  refine RetOk.mk (.agg h103 rfl (.cons 1 rfl .nil) FField.agg71 .nil) ?_
  exact ⟨rfl, h104⟩
theorem field_Elem_Inv_ok {B : Nat} {w0 w : World} {L : List Rg} {al1 : Nat → BitVec 64} {r : (Nat → BitVec 64)} (hR : field_Elem_Inv al1 r) (HST : St B w0 (L) w) :
  Calls Tryd.prog 30 #[AG [(5, fun q => VU .u64 (al1 q))]] w fun e w' => e = .returned (AG [(5, fun q => VU .u64 (r q))]) ∧ St B w0 (L) w' := by
 refine W.enter 6 Tryd.func30 rfl rfl rfl ?_
 unfold field_Elem_Inv at hR
 refine W.seq_k fun _ k2 => W.regionT [(0, false), (1, false)] (by kernel_rfl) ?_
 refine Plan.boxA HST rfl rfl PIn.nil fun b3 w3 hb3 h3 => ?_
 simp only [rngs, Nat.zero_add, Nat.reduceAdd, zca, zna] at h3
 refine Plan.alloc h3 rfl FField.z71 PIn.nil fun b4 w4 hb4 h4 => ?_
 simp only [rngs, Nat.zero_add, Nat.reduceAdd, zca, zna] at h4
 refine Plan.nil (k2 _ _ ?_); clear k2
 refine W.seq_k fun _ k5 => ?_
 refine W.regionD FField.mixed [(0, true), (1, false), (2, false), (3, false)] (by kernel_rfl) ?_
 have h6 := h4.drew
 refine Plan.loadA1 h6 1 rfl rfl rfl FField.agg71 ?_
 obtain ⟨x_8, hr7, hR⟩ := hR
 refine Plan.call (vs := [VU .u8 (235#8), VU .u8 (127#8)]) rfl FField.call45 rfl (field_exponent_ok  hr7 h6) ?_
 rintro _ w9 ⟨rfl, h9⟩
 refine ⟨_, rfl, .inl ⟨PIn.keep (PIn.cons 1 rfl PIn.nil) h9, ?_⟩⟩
 obtain ⟨x_11, hr10, hR⟩ := hR
 refine Plan.call (vs := [AG [(5, fun q => VU .u64 (al1 q))], AG [(32, fun q => VU .u8 (x_8 q))]]) rfl FField.call44 rfl (field_Elem_Pow_ok  hr10 h9) ?_
 rintro _ w12 ⟨rfl, h12⟩
 refine ⟨_, rfl, .inr ⟨rfl, ?_⟩⟩
 refine Plan.storeA (f' := fun q => VU .u64 (x_11 q)) h12 0 rfl rfl rfl rfl (fun _ _ => rfl) FField.sz71 rfl fun w13 h13 => ?_
 simp only [zca, zna, zsz, zss] at h13
 refine Plan.nil (k5 _ _ ?_); clear k5
 refine W.ret (finR_ret ?_)
 have h14 := St.pickT (C := [_, _]) h13 [] (by decide)
 simp only [pick, zfc, zfn, zgz, zgs, zca, zna] at h14
 subst r
 refine RetOk.mk (.agg h13 rfl (.cons 0 rfl .nil) FField.agg71 .nil) ?_
 exact ⟨rfl, h14⟩
theorem field_Elem_Bytes_ok {B : Nat} {w0 w : World} {L : List Rg} {al1 : Nat → BitVec 64} {r : (Nat → BitVec 8)} (hR : field_Elem_Bytes al1 r) (HST : St B w0 (L) w) :
  Calls Tryd.prog 31 #[AG [(5, fun q => VU .u64 (al1 q))]] w fun e w' => e = .returned (AG [(32, fun q => VU .u8 (r q))]) ∧ St B w0 (L) w' := by
 refine W.enter 79 Tryd.func31 rfl rfl rfl ?_
 unfold field_Elem_Bytes at hR
 refine W.seq_k fun _ k2 => W.regionT [(0, false), (1, false)] (by kernel_rfl) ?_
 refine Plan.boxA HST rfl rfl PIn.nil fun b3 w3 hb3 h3 => ?_
 simp only [rngs, Nat.zero_add, Nat.reduceAdd, zca, zna] at h3
 refine Plan.alloc h3 rfl FField.z23 PIn.nil fun b4 w4 hb4 h4 => ?_
 simp only [rngs, Nat.zero_add, Nat.reduceAdd, zca, zna] at h4
 refine Plan.nil (k2 _ _ ?_); clear k2
 refine W.seq_k fun _ k5 => W.regionT [(0, true), (1, true), (2, false), (3, false), (4, false), (5, false)] (by kernel_rfl) ?_
 refine Plan.fieldAddr0 FField.fld71_0 rfl rfl <| Plan.loadA1 h4 1 rfl rfl rfl FField.agg69 ?_
 obtain ⟨x_7, hr6, hR⟩ := hR
 refine Plan.call (vs := [AG [(5, fun q => VU .u64 (al1 q))]]) rfl FField.call43 rfl (field_limbs_carried_ok  hr6 h4) ?_
 rintro _ w8 ⟨rfl, h8⟩
 refine ⟨_, rfl, .inr ⟨rfl, ?_⟩⟩
 obtain ⟨x_10, hr9, hR⟩ := hR
 refine Plan.call (vs := [AG [(5, fun q => VU .u64 (x_7 q))]]) rfl FField.call43 rfl (field_limbs_carried_ok  hr9 h8) ?_
 rintro _ w11 ⟨rfl, h11⟩
 refine ⟨_, rfl, .inl ⟨PIn.keep PIn.nil h11, ?_⟩⟩
 refine Plan.alloc h11 rfl FField.z69 PIn.nil fun b12 w12 hb12 h12 => ?_
 simp only [rngs, Nat.zero_add, Nat.reduceAdd, zca, zna] at h12
 refine Plan.storeA (f' := fun q => VU .u64 (x_10 q)) h12 0 rfl rfl rfl rfl (fun _ _ => rfl) FField.sz69 rfl fun w13 h13 => ?_
 simp only [zca, zna, zsz, zss] at h13
 refine Plan.nil (k5 _ _ ?_); clear k5
 refine W.seq_k fun _ k14 => W.regionT [(0, true), (1, true), (2, true), (3, true), (4, true)] (by kernel_rfl) ?_
 refine Plan.idxArr1 (j := 0) FField.arr69 rfl rfl rfl (by omega) <| Plan.load1 (j := 0) h13 0 rfl rfl rfl (by omega) FField.sc67 <| Plan.addU .u64 (X := (x_10 0)) (Y := 19#64) rfl rfl rfl <| Plan.shrU .u64 (X := ((x_10 0) + (19#64))) (c := 51) rfl rfl rfl <| Plan.assign_int rfl rfl <| Plan.nil (k14 _ _ ?_); clear k14
 refine W.seq_k fun _ k15 => W.seq_k fun _ k16 => ?_
 refine W.regionT [(0, true)] (by kernel_rfl) ?_
 refine Plan.assign_int rfl rfl <| Plan.nil (k16 _ _ ?_); clear k16
 obtain ⟨q_29, hI30, hR030⟩ := hR
 refine W.cutN (fun e w => ∃ y_q_29 : BitVec 64, q_29 = y_q_29 ∧ EnvHas e [(2, .pointer (some ⟨b4, 0, none⟩)), (3, .pointer (some ⟨b12, 0, none⟩)), (4, VU .u64 y_q_29)] ∧ St B w0 (⟨some b12, 0, 5, fun q => VU .u64 (x_10 q), true⟩ :: ⟨some b4, 0, 32, fun q => VU .u8 ((fun _ => 0#8) q), true⟩ :: L) w) ?_ ?_
 ·
  refine W.block ?_
  have h31 := St.pickT (C := [_, _, _]) h13 [0, 1] (by decide)
  simp only [pick, zfc, zfn, zgz, zgs, zca, zna] at h31
  refine W.iter hI30 (fun (s30 : ((BitVec 64) × Nat)) e w => EnvHas e [(2, .pointer (some ⟨b4, 0, none⟩)), (3, .pointer (some ⟨b12, 0, none⟩)), (4, VU .u64 s30.1), (5, VN s30.2)] ∧ St B w0 (⟨some b12, 0, 5, fun q => VU .u64 (x_10 q), true⟩ :: ⟨some b4, 0, 32, fun q => VU .u8 ((fun _ => 0#8) q), true⟩ :: L) w) ⟨(zer (zer (zer (zer zen)))), h31⟩ ?_
  rintro ⟨q_27, i_28⟩ o30 hR hx30 ev32 wl32 ⟨he32, h32⟩
  obtain ⟨ev32, rfl⟩ := he32.open
  unfold field_Elem_Bytes_l0 at hR
  refine W.seq_k fun _ k33 => W.seq_k fun _ k34 => ?_
  refine W.regionT [(0, true), (1, true)] (by kernel_rfl) ?_
  refine Plan.move_int rfl rfl <| Plan.cmpP (a := (((i_28 : Nat) : Int) : Int)) (b := (5 : Int)) (p := i_28 < 5) rfl rfl rfl rfl icmp_ltN <| Plan.nil (k34 _ _ ?_); clear k34
  by_cases hc35 : i_28 < 5
  ·
   replace hR := ifT hR hc35
   refine W.condT (congrArg Value.bool (decide_eq_true hc35)) ?_
   refine W.skip ?_
   refine k33 _ _ ?_; clear k33
   refine W.seq_k fun _ k36 => ?_
   refine W.block ?_
   refine W.regionT [(0, true), (1, true), (2, true), (3, true), (4, true), (5, true), (6, true)] (by kernel_rfl) ?_
   refine Plan.move_int rfl rfl <| Plan.idxArr1 (j := i_28) FField.arr69 rfl rfl rfl (by omega) <| Plan.load1 (j := i_28) h32 0 rfl rfl rfl (by omega) FField.sc67 <| Plan.move_int rfl rfl <| Plan.addU .u64 (X := (x_10 i_28)) (Y := q_27) rfl rfl rfl <| Plan.shrU .u64 (X := ((x_10 i_28) + q_27)) (c := 51) rfl rfl rfl <| Plan.assign_int rfl rfl <| Plan.nil ?_
   refine blockR_norm ?_
   refine k36 _ _ ?_; clear k36
   refine W.regionT [(0, true), (1, true), (2, true)] (by kernel_rfl) ?_
   refine Plan.move_int rfl rfl <| Plan.addN (a := i_28) (b := 1) rfl rfl rfl (by omega) <| Plan.assign_int rfl rfl <| Plan.nil ?_
   exact iterR_norm ⟨_, hR, (zer (zer (zer (zer zen)))), h32⟩
  ·
   replace hR := ifF hR hc35
   refine W.condF (congrArg Value.bool (decide_eq_false hc35)) ?_
   refine W.exit (thenR_exit (iterR_exit (blockR_here ?_)))
   exact ⟨q_27, (hx30 _ hR).symm, (zer (zer (zer zen))), h32⟩
 ·
  rintro ev37 wl37 ⟨y_q_29, hy37, he37, h37⟩
  obtain ⟨ev37, rfl⟩ := he37.open
  subst hy37
  replace hR := hR030
  refine k15 _ _ ?_; clear k15
  refine W.seq_k fun _ k38 => W.regionT [(0, true), (1, true), (2, true), (3, true), (4, true), (5, true), (6, false)] (by kernel_rfl) ?_
  refine Plan.idxArr1 (j := 0) FField.arr69 rfl rfl rfl (by omega) <| Plan.load1 (j := 0) h37 0 rfl rfl rfl (by omega) FField.sc67 <| Plan.move_int rfl rfl <| Plan.mulU .u64 (X := 19#64) (Y := q_29) rfl rfl rfl <| Plan.addU .u64 (X := (x_10 0)) (Y := ((19#64) * q_29)) rfl rfl rfl <| Plan.idxArr1 (j := 0) FField.arr69 rfl rfl rfl (by omega) ?_
  refine Plan.storeU (j := 0) (X := ((x_10 0) + ((19#64) * q_29))) h37 0 rfl rfl rfl rfl (by omega) FField.sz67 rfl fun w39 h39 => ?_
  simp only [zca, zna, zsz, zss] at h39
  refine Plan.nil (k38 _ _ ?_); clear k38
  refine W.seq_k fun _ k40 => W.seq_k fun _ k41 => ?_
  refine W.regionT [(0, true)] (by kernel_rfl) ?_
  refine Plan.move_int rfl rfl <| Plan.nil (k41 _ _ ?_); clear k41
  obtain ⟨m64, hI65, hR065⟩ := hR
  refine W.cutN (fun e w => ∃ y_m64 : Nat → BitVec 64, m64 = y_m64 ∧ EnvHas e [(2, .pointer (some ⟨b4, 0, none⟩)), (3, .pointer (some ⟨b12, 0, none⟩))] ∧ St B w0 (⟨some b12, 0, 5, fun q => VU .u64 (y_m64 q), true⟩ :: ⟨some b4, 0, 32, fun q => VU .u8 ((fun _ => 0#8) q), true⟩ :: L) w) ?_ ?_
  ·
   refine W.block ?_
   refine W.iter hI65 (fun (s65 : (Nat × (Nat → BitVec 64))) e w => EnvHas e [(2, .pointer (some ⟨b4, 0, none⟩)), (3, .pointer (some ⟨b12, 0, none⟩)), (33, VN s65.1)] ∧ St B w0 (⟨some b12, 0, 5, fun q => VU .u64 (s65.2 q), true⟩ :: ⟨some b4, 0, 32, fun q => VU .u8 ((fun _ => 0#8) q), true⟩ :: L) w) ⟨(zer (zer (zer zen))), h39⟩ ?_
   rintro ⟨t62, m63⟩ o65 hR hx65 ev66 wl66 ⟨he66, h66⟩
   obtain ⟨ev66, rfl⟩ := he66.open
   unfold field_Elem_Bytes_l1 at hR
   refine W.seq_k fun _ k67 => W.regionT [(0, true)] (by kernel_rfl) ?_
   refine Plan.cmpP (a := (((t62 : Nat) : Int) : Int)) (b := (4 : Int)) (p := t62 < 4) rfl rfl rfl rfl icmp_ltN <| Plan.nil (k67 _ _ ?_); clear k67
   refine W.seq_k fun _ k68 => ?_
   by_cases hc69 : t62 < 4
   ·
    replace hR := ifT hR hc69
    refine W.condT (congrArg Value.bool (decide_eq_true hc69)) ?_
    refine W.skip ?_
    refine k68 _ _ ?_; clear k68
    refine W.seq_k fun _ k70 => ?_
    refine W.block ?_
    refine W.seq_k fun _ k71 => W.regionT [(0, true), (1, true)] (by kernel_rfl) ?_
    refine Plan.move_int rfl rfl <| Plan.assign_int rfl rfl <| Plan.nil (k71 _ _ ?_); clear k71
    refine W.seq_k fun _ k72 => ?_
    refine W.regionD FField.mixed [(0, true), (1, true), (2, true), (3, true), (4, true), (5, true), (6, true), (7, true), (8, true), (9, true), (10, false)] (by kernel_rfl) ?_
    have h73 := h66.drew
    refine Plan.move_int rfl rfl <| Plan.addN (a := t62) (b := 1) rfl rfl rfl (by omega) <| Plan.idxArr1 (j := (t62 + 1)) FField.arr69 rfl rfl rfl (by omega) <| Plan.load1 (j := (t62 + 1)) h73 0 rfl rfl rfl (by omega) FField.sc67 <| Plan.move_int rfl rfl <| Plan.idxArr1 (j := t62) FField.arr69 rfl rfl rfl (by omega) <| Plan.load1 (j := t62) h73 0 rfl rfl rfl (by omega) FField.sc67 <| Plan.shrU .u64 (X := (m63 t62)) (c := 51) rfl rfl rfl ?_
    refine Plan.addU .u64 (X := (m63 (t62 + 1))) (Y := ((m63 t62) >>> 51)) rfl rfl rfl <| Plan.idxArr1 (j := (t62 + 1)) FField.arr69 rfl rfl rfl (by omega) ?_
    refine Plan.storeU (j := (t62 + 1)) (X := ((m63 (t62 + 1)) + ((m63 t62) >>> 51))) h73 0 rfl rfl rfl rfl (by omega) FField.sz67 rfl fun w74 h74 => ?_
    simp only [zca, zna, zsz, zss] at h74
    refine Plan.nil (k72 _ _ ?_); clear k72
    refine W.regionT [(0, true), (1, true), (2, true), (3, true), (4, true), (5, false)] (by kernel_rfl) ?_
    refine Plan.move_int rfl rfl <| Plan.idxArr1 (j := t62) FField.arr69 rfl rfl rfl (by omega) <| Plan.load1 (j := t62) h74 0 rfl rfl rfl (by omega) FField.sc67 <| Plan.andU .u64 (X := ((upd m63 (t62 + 1) ((m63 (t62 + 1)) + ((m63 t62) >>> 51))) t62)) (Y := 2251799813685247#64) rfl rfl rfl <| Plan.idxArr1 (j := t62) FField.arr69 rfl rfl rfl (by omega) ?_
    refine Plan.storeU (j := t62) (X := (((upd m63 (t62 + 1) ((m63 (t62 + 1)) + ((m63 t62) >>> 51))) t62) &&& (2251799813685247#64))) h74 0 rfl rfl rfl rfl (by omega) FField.sz67 rfl fun w75 h75 => ?_
    simp only [zca, zna, zsz, zss] at h75
    refine Plan.nil ?_
    refine blockR_norm ?_
    refine k70 _ _ ?_; clear k70
    refine W.regionT [(0, true), (1, true)] (by kernel_rfl) ?_
    refine Plan.addN (a := t62) (b := 1) rfl rfl rfl (by omega) <| Plan.move_int rfl rfl <| Plan.nil ?_
    exact iterR_norm ⟨_, hR, (zer (zer (zer zen))), h75⟩
   ·
    replace hR := ifF hR hc69
    refine W.condF (congrArg Value.bool (decide_eq_false hc69)) ?_
    refine W.exit (thenR_exit (iterR_exit (blockR_here ?_)))
    exact ⟨m63, (hx65 _ hR).symm, (zer (zer zen)), h66⟩
  ·
   rintro ev76 wl76 ⟨y_m64, hy76, he76, h76⟩
   obtain ⟨ev76, rfl⟩ := he76.open
   subst hy76
   replace hR := hR065
   refine k40 _ _ ?_; clear k40
   refine W.seq_k fun _ k77 => W.regionT [(0, true), (1, true), (2, true), (3, true), (4, false)] (by kernel_rfl) ?_
   refine Plan.idxArr1 (j := 4) FField.arr69 rfl rfl rfl (by omega) <| Plan.load1 (j := 4) h76 0 rfl rfl rfl (by omega) FField.sc67 <| Plan.andU .u64 (X := (m64 4)) (Y := 2251799813685247#64) rfl rfl rfl <| Plan.idxArr1 (j := 4) FField.arr69 rfl rfl rfl (by omega) ?_
   refine Plan.storeU (j := 4) (X := ((m64 4) &&& (2251799813685247#64))) h76 0 rfl rfl rfl rfl (by omega) FField.sz67 rfl fun w78 h78 => ?_
   simp only [zca, zna, zsz, zss] at h78
   refine Plan.nil (k77 _ _ ?_); clear k77
   refine W.seq_k fun _ k79 => W.regionT [(0, false)] (by kernel_rfl) ?_
   refine Plan.alloc h78 rfl FField.z23 PIn.nil fun b80 w80 hb80 h80 => ?_
   simp only [rngs, Nat.zero_add, Nat.reduceAdd, zca, zna] at h80
   refine Plan.nil (k79 _ _ ?_); clear k79
   refine W.seq_k fun _ k81 => W.seq_k fun _ k82 => ?_
   refine W.regionT [(0, true)] (by kernel_rfl) ?_
   refine Plan.move_int rfl rfl <| Plan.nil (k82 _ _ ?_); clear k82
   obtain ⟨m101, hI102, hR0102⟩ := hR
   refine W.cutN (fun e w => ∃ y_m101 : Nat → BitVec 8, m101 = y_m101 ∧ EnvHas e [(2, .pointer (some ⟨b4, 0, none⟩)), (7, .pointer (some ⟨b80, 0, none⟩))] ∧ St B w0 (⟨some b80, 0, 32, fun q => VU .u8 (y_m101 q), true⟩ :: ⟨some b4, 0, 32, fun q => VU .u8 ((fun _ => 0#8) q), true⟩ :: L) w) ?_ ?_
   ·
    refine W.block ?_
    refine W.iter hI102 (fun (s102 : (Nat × (Nat → BitVec 8))) e w => EnvHas e [(2, .pointer (some ⟨b4, 0, none⟩)), (3, .pointer (some ⟨b12, 0, none⟩)), (7, .pointer (some ⟨b80, 0, none⟩)), (56, VN s102.1)] ∧ St B w0 (⟨some b80, 0, 32, fun q => VU .u8 (s102.2 q), true⟩ :: ⟨some b12, 0, 5, fun q => VU .u64 ((upd m64 4 ((m64 4) &&& (2251799813685247#64))) q), true⟩ :: ⟨some b4, 0, 32, fun q => VU .u8 ((fun _ => 0#8) q), true⟩ :: L) w) ⟨(zer (zer (zer (zer zen)))), h80⟩ ?_
    rintro ⟨t99, m100⟩ o102 hR hx102 ev103 wl103 ⟨he103, h103⟩
    obtain ⟨ev103, rfl⟩ := he103.open
    unfold field_Elem_Bytes_l2 at hR
    refine W.seq_k fun _ k104 => W.regionT [(0, true)] (by kernel_rfl) ?_
    refine Plan.cmpP (a := (((t99 : Nat) : Int) : Int)) (b := (255 : Int)) (p := t99 < 255) rfl rfl rfl rfl icmp_ltN <| Plan.nil (k104 _ _ ?_); clear k104
    refine W.seq_k fun _ k105 => ?_
    by_cases hc106 : t99 < 255
    ·
     replace hR := ifT hR hc106
     refine W.condT (congrArg Value.bool (decide_eq_true hc106)) ?_
     refine W.skip ?_
     refine k105 _ _ ?_; clear k105
     refine W.seq_k fun _ k107 => ?_
     refine W.block ?_
     refine W.seq_k fun _ k108 => W.regionT [(0, true), (1, true)] (by kernel_rfl) ?_
     refine Plan.move_int rfl rfl <| Plan.assign_int rfl rfl <| Plan.nil (k108 _ _ ?_); clear k108
     refine W.regionD FField.mixed [(0, true), (1, true), (2, true), (3, true), (4, true), (5, true), (6, true), (7, true), (8, true), (9, true), (10, true), (11, true), (12, true), (13, true), (14, true), (15, true), (16, true), (17, true), (18, false)] (by kernel_rfl) ?_
     have h109 := h103.drew
     refine Plan.move_int rfl rfl <| Plan.quoN (a := t99) (b := 8) rfl rfl rfl (by omega) <| Plan.idxArr1 (j := (t99 / 8)) FField.arr23 rfl rfl rfl (by omega) <| Plan.load1 (j := (t99 / 8)) h109 0 rfl rfl rfl (by omega) FField.sc5 <| Plan.move_int rfl rfl <| Plan.quoN (a := t99) (b := 51) rfl rfl rfl (by omega) <| Plan.idxArr1 (j := (t99 / 51)) FField.arr69 rfl rfl rfl (by omega) <| Plan.load1 (j := (t99 / 51)) h109 1 rfl rfl rfl (by omega) FField.sc67 ?_
     refine Plan.move_int rfl rfl <| Plan.remN (a := t99) (b := 51) rfl rfl rfl (by omega) <| Plan.shrU .u64 (X := ((upd m64 4 ((m64 4) &&& (2251799813685247#64))) (t99 / 51))) (c := (t99 % 51)) rfl rfl rfl <| Plan.andU .u64 (X := (((upd m64 4 ((m64 4) &&& (2251799813685247#64))) (t99 / 51)) >>> (t99 % 51))) (Y := 1#64) rfl rfl rfl <| Plan.convUU .u8 (X := ((((upd m64 4 ((m64 4) &&& (2251799813685247#64))) (t99 / 51)) >>> (t99 % 51)) &&& (1#64))) FField.u5 FField.some67 rfl rfl <| Plan.move_int rfl rfl <| Plan.remN (a := t99) (b := 8) rfl rfl rfl (by omega) <| Plan.shlU .u8 (X := (((((upd m64 4 ((m64 4) &&& (2251799813685247#64))) (t99 / 51)) >>> (t99 % 51)) &&& (1#64)).setWidth 8)) (c := (t99 % 8)) rfl rfl rfl ?_
     refine Plan.orU .u8 (X := (m100 (t99 / 8))) (Y := ((((((upd m64 4 ((m64 4) &&& (2251799813685247#64))) (t99 / 51)) >>> (t99 % 51)) &&& (1#64)).setWidth 8) <<< (t99 % 8))) rfl rfl rfl <| Plan.idxArr1 (j := (t99 / 8)) FField.arr23 rfl rfl rfl (by omega) ?_
     refine Plan.storeU (j := (t99 / 8)) (X := ((m100 (t99 / 8)) ||| ((((((upd m64 4 ((m64 4) &&& (2251799813685247#64))) (t99 / 51)) >>> (t99 % 51)) &&& (1#64)).setWidth 8) <<< (t99 % 8)))) h109 0 rfl rfl rfl rfl (by omega) FField.sz5 rfl fun w110 h110 => ?_
     simp only [zca, zna, zsz, zss] at h110
     refine Plan.nil ?_
     refine blockR_norm ?_
     refine k107 _ _ ?_; clear k107
     refine W.regionT [(0, true), (1, true)] (by kernel_rfl) ?_
     refine Plan.addN (a := t99) (b := 1) rfl rfl rfl (by omega) <| Plan.move_int rfl rfl <| Plan.nil ?_
     exact iterR_norm ⟨_, hR, (zer (zer (zer (zer zen)))), h110⟩
    ·
     replace hR := ifF hR hc106
     refine W.condF (congrArg Value.bool (decide_eq_false hc106)) ?_
     refine W.exit (thenR_exit (iterR_exit (blockR_here ?_)))
     have h111 := St.pickT (C := [_, _, _]) h103 [0, 2] (by decide)
     simp only [pick, zfc, zfn, zgz, zgs, zca, zna] at h111
     exact ⟨m100, (hx102 _ hR).symm, (zer (zer zen)), h111⟩
   ·
    rintro ev112 wl112 ⟨y_m101, hy112, he112, h112⟩
    obtain ⟨ev112, rfl⟩ := he112.open
    subst hy112
    replace hR := hR0102
    refine k81 _ _ ?_; clear k81
    refine W.seq_k fun _ k113 => W.regionT [(0, true), (1, false)] (by kernel_rfl) ?_
    refine Plan.loadA1 h112 0 rfl rfl rfl FField.agg23 ?_
    refine Plan.storeA (f' := fun q => VU .u8 (m101 q)) h112 1 rfl rfl rfl rfl (fun _ _ => rfl) FField.sz23 rfl fun w114 h114 => ?_
    simp only [zca, zna, zsz, zss] at h114
    refine Plan.nil (k113 _ _ ?_); clear k113
    refine W.ret (finR_ret ?_)
    have h115 := St.pickT (C := [_, _]) h114 [] (by decide)
    simp only [pick, zfc, zfn, zgz, zgs, zca, zna] at h115
    subst r
    refine RetOk.mk (.agg h114 rfl (.cons 1 rfl .nil) FField.agg23 .nil) ?_
    exact ⟨rfl, h115⟩
end Go.Proofs.YtjclppnbbpnfnaaDoor
