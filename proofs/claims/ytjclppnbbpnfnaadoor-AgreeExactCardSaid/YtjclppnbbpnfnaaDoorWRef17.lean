/-
 WALKS of the package's functions, printed by this session's own program (auto.py).
-/
import Derived.Test.YtjclppnbbpnfnaaDoorProg
import Derived.Test.YtjclppnbbpnfnaaDoorEb
import Derived.Test.YtjclppnbbpnfnaaDoorRRef17
import Derived.Test.YtjclppnbbpnfnaaDoorEls
import Derived.Test.YtjclppnbbpnfnaaDoorWRef03
import Derived.Test.YtjclppnbbpnfnaaDoorWRef07
namespace Go.Proofs.YtjclppnbbpnfnaaDoor
set_option linter.unusedSimpArgs false
set_option linter.unusedVariables false
set_option linter.unusedSectionVars false
set_option maxRecDepth 8000
set_option maxHeartbeats 1000000
open Go Go.LW
theorem FRef17.mixed : Tryd.prog.follows .mixedOrders = true := by kernel_rfl
theorem FRef17.agg23 : aggT Tryd.prog 23 32 = true := by kernel_rfl
theorem FRef17.z23 : zeroIs Tryd.prog 23 [(32, fun _ => VU .u8 0#8)] := zeroIs_agg (by kernel_rfl)
theorem FRef17.arr23 : arrB Tryd.prog 23 32 1 = true := by kernel_rfl
theorem FRef17.sc5 : scalarT Tryd.prog 5 = true := by kernel_rfl
theorem FRef17.sz5 : szT Tryd.prog 5 1 = true := by kernel_rfl
theorem FRef17.sz23 : szT Tryd.prog 23 32 = true := by kernel_rfl
theorem FRef17.u5 : Tryd.prog.underlying 5 = some (.int .u8) := by kernel_rfl
theorem FRef17.fld25_1 : fieldB Tryd.prog 25 1 32 = true := by kernel_rfl
theorem FRef17.z35 : zeroIs Tryd.prog 35 [(32, fun _ => VU .u8 0#8), (16, fun _ => VU .u8 0#8), (64, fun _ => VU .u8 0#8), (32, fun _ => VU .u8 0#8), (32, fun _ => VU .u8 0#8), (1, fun _ => VU .u32 0#32), (1, fun _ => .int .i64 0)] := zeroIs_agg (by kernel_rfl)
theorem FRef17.z30 : zeroIs Tryd.prog 30 [(16, fun _ => VU .u8 0#8)] := zeroIs_agg (by kernel_rfl)
theorem FRef17.z31 : zeroIs Tryd.prog 31 [(64, fun _ => VU .u8 0#8)] := zeroIs_agg (by kernel_rfl)
theorem FRef17.z33 : zeroIs Tryd.prog 33 [(32, fun _ => VU .u8 0#8), (32, fun _ => VU .u8 0#8), (1, fun _ => VU .u32 0#32)] := zeroIs_agg (by kernel_rfl)
theorem FRef17.fld28_1 : fieldB Tryd.prog 28 1 32 = true := by kernel_rfl
theorem FRef17.sc26 : scalarT Tryd.prog 26 = true := by kernel_rfl
theorem FRef17.fld25_0 : fieldB Tryd.prog 25 0 0 = true := by kernel_rfl
theorem FRef17.fld28_2 : fieldB Tryd.prog 28 2 33 = true := by kernel_rfl
theorem FRef17.fld28_0 : fieldB Tryd.prog 28 0 0 = true := by kernel_rfl
theorem FRef17.zv5 : (Tryd.prog.info? 5).bind (·.zero) = some (VU .u8 0#8) := by kernel_rfl
theorem FRef17.slu40 : Tryd.prog.underlying 40 = some (.slice 5) := by kernel_rfl
theorem FRef17.sl40 : slB Tryd.prog 40 1 = true := by kernel_rfl
theorem FRef17.sz30 : szT Tryd.prog 30 16 = true := by kernel_rfl
theorem FRef17.el40 : elD Tryd.prog 40 = some (1, 1, some (VU .u8 0#8)) := by kernel_rfl
theorem FRef17.zv40 : (Tryd.prog.info? 40).bind (·.zero) = some (.slice none 0 0) := by kernel_rfl
theorem FRef17.slu102 : Tryd.prog.underlying 102 = some (.slice 40) := by kernel_rfl
theorem FRef17.sz40 : szT Tryd.prog 40 1 = true := by kernel_rfl
theorem FRef17.arr31 : arrB Tryd.prog 31 64 1 = true := by kernel_rfl
theorem FRef17.agg31 : aggT Tryd.prog 31 64 = true := by kernel_rfl
theorem FRef17.arr30 : arrB Tryd.prog 30 16 1 = true := by kernel_rfl
theorem FRef17.agg30 : aggT Tryd.prog 30 16 = true := by kernel_rfl
theorem FRef17.pl33 : placesB Tryd.prog 33 [(0, 32), (32, 32), (64, 1)] = true := by kernel_rfl
theorem FRef17.sz31 : szT Tryd.prog 31 64 = true := by kernel_rfl
theorem FRef17.pl35 : placesB Tryd.prog 35 [(0, 32), (32, 16), (48, 64), (112, 65), (177, 1)] = true := by kernel_rfl
theorem FRef17.sz35 : szT Tryd.prog 35 178 = true := by kernel_rfl
theorem FRef17.agg35 : aggT Tryd.prog 35 178 = true := by kernel_rfl
theorem FRef17.fld33_2 : fieldB Tryd.prog 33 2 64 = true := by kernel_rfl
theorem FRef17.fld33_0 : fieldB Tryd.prog 33 0 0 = true := by kernel_rfl
theorem FRef17.fld33_1 : fieldB Tryd.prog 33 1 32 = true := by kernel_rfl
theorem FRef17.fld35_0 : fieldB Tryd.prog 35 0 0 = true := by kernel_rfl
theorem FRef17.fld35_1 : fieldB Tryd.prog 35 1 32 = true := by kernel_rfl
theorem FRef17.call13 : callB Tryd.prog 13 = true := by kernel_rfl
theorem FRef17.arr83 : arrB Tryd.prog 83 3 32 = true := by kernel_rfl
theorem FRef17.z83 : zeroIs Tryd.prog 83 [(96, fun _ => VU .u8 0#8)] := zeroIs_agg (by kernel_rfl)
theorem FRef17.call51 : callB Tryd.prog 51 = true := by kernel_rfl
theorem FRef17.agg83 : aggT Tryd.prog 83 96 = true := by kernel_rfl
theorem FRef17.sz83 : szT Tryd.prog 83 96 = true := by kernel_rfl
theorem FRef17.call33 : callB Tryd.prog 33 = true := by kernel_rfl
theorem FRef17.call53 : callB Tryd.prog 53 = true := by kernel_rfl
theorem FRef17.call52 : callB Tryd.prog 52 = true := by kernel_rfl
theorem FRef17.call34 : callB Tryd.prog 34 = true := by kernel_rfl
theorem letheref17_Bind_ok {B : Nat} {w0 w : World} {L : List Rg} {a1 : Nat → BitVec 8} {b2 : Nat → BitVec 8} {r : (Nat → BitVec 8)} (hR : letheref17_Bind a1 b2 r) (HST : St B w0 (L) w) :
  Calls Tryd.prog 13 #[AG [(32, fun q => VU .u8 (a1 q))], AG [(32, fun q => VU .u8 (b2 q))]] w fun e w' => e = .returned (AG [(64, fun q => VU .u8 (r q))]) ∧ St B w0 (L) w' := by
 refine W.enter 23 Tryd.func13 rfl rfl rfl ?_
 unfold letheref17_Bind at hR
 refine W.seq_k fun _ k3 => W.regionT [(0, false), (1, false), (2, false)] (by kernel_rfl) ?_
 refine Plan.boxA HST rfl rfl PIn.nil fun b4 w4 hb4 h4 => ?_
 simp only [rngs, Nat.zero_add, Nat.reduceAdd, zca, zna] at h4
 refine Plan.boxA h4 rfl rfl PIn.nil fun b5 w5 hb5 h5 => ?_
 simp only [rngs, Nat.zero_add, Nat.reduceAdd, zca, zna] at h5
 refine Plan.alloc h5 rfl FRef17.z31 PIn.nil fun b6 w6 hb6 h6 => ?_
 simp only [rngs, Nat.zero_add, Nat.reduceAdd, zca, zna] at h6
 refine Plan.nil (k3 _ _ ?_); clear k3
 refine W.seq_k fun _ k7 => W.regionT [(0, false)] (by kernel_rfl) ?_
 refine Plan.alloc h6 rfl FRef17.z31 PIn.nil fun b8 w8 hb8 h8 => ?_
 simp only [rngs, Nat.zero_add, Nat.reduceAdd, zca, zna] at h8
 refine Plan.nil (k7 _ _ ?_); clear k7
 refine W.seq_k fun _ k9 => W.seq_k fun _ k10 => ?_
 refine W.regionT [(0, true)] (by kernel_rfl) ?_
 refine Plan.assign_int rfl rfl <| Plan.nil (k10 _ _ ?_); clear k10
 obtain ⟨m29, hI30, hR030⟩ := hR
 refine W.cutN (fun e w => ∃ y_m29 : Nat → BitVec 8, m29 = y_m29 ∧ EnvHas e [(4, .pointer (some ⟨b6, 0, none⟩)), (5, .pointer (some ⟨b8, 0, none⟩))] ∧ St B w0 (⟨some b8, 0, 64, fun q => VU .u8 (y_m29 q), true⟩ :: ⟨some b6, 0, 64, fun q => VU .u8 ((fun _ => 0#8) q), true⟩ :: L) w) ?_ ?_
 ·
  refine W.block ?_
  refine W.iter hI30 (fun (s30 : (Nat × (Nat → BitVec 8))) e w => EnvHas e [(2, .pointer (some ⟨b4, 0, none⟩)), (3, .pointer (some ⟨b5, 0, none⟩)), (4, .pointer (some ⟨b6, 0, none⟩)), (5, .pointer (some ⟨b8, 0, none⟩)), (6, VN s30.1)] ∧ St B w0 (⟨some b8, 0, 64, fun q => VU .u8 (s30.2 q), true⟩ :: ⟨some b6, 0, 64, fun q => VU .u8 ((fun _ => 0#8) q), true⟩ :: ⟨some b5, 0, 32, fun q => VU .u8 (b2 q), true⟩ :: ⟨some b4, 0, 32, fun q => VU .u8 (a1 q), true⟩ :: L) w) ⟨(zer (zer (zer (zer (zer zen))))), h8⟩ ?_
  rintro ⟨i_27, m28⟩ o30 hR hx30 ev31 wl31 ⟨he31, h31⟩
  obtain ⟨ev31, rfl⟩ := he31.open
  unfold letheref17_Bind_l0 at hR
  refine W.seq_k fun _ k32 => W.seq_k fun _ k33 => ?_
  refine W.regionT [(0, true), (1, true)] (by kernel_rfl) ?_
  refine Plan.move_int rfl rfl <| Plan.cmpP (a := (((i_27 : Nat) : Int) : Int)) (b := (32 : Int)) (p := i_27 < 32) rfl rfl rfl rfl icmp_ltN <| Plan.nil (k33 _ _ ?_); clear k33
  by_cases hc34 : i_27 < 32
  ·
   replace hR := ifT hR hc34
   refine W.condT (congrArg Value.bool (decide_eq_true hc34)) ?_
   refine W.skip ?_
   refine k32 _ _ ?_; clear k32
   refine W.seq_k fun _ k35 => ?_
   refine W.block ?_
   refine W.seq_k fun _ k36 => W.regionT [(0, true), (1, true), (2, true), (3, true), (4, true), (5, false)] (by kernel_rfl) ?_
   refine Plan.move_int rfl rfl <| Plan.move_int rfl rfl <| Plan.idxArr1 (j := i_27) FRef17.arr23 rfl rfl rfl (by omega) <| Plan.load1 (j := i_27) h31 3 rfl rfl rfl (by omega) FRef17.sc5 <| Plan.idxArr1 (j := i_27) FRef17.arr31 rfl rfl rfl (by omega) ?_
   refine Plan.storeU (j := i_27) (X := (a1 i_27)) h31 0 rfl rfl rfl rfl (by omega) FRef17.sz5 rfl fun w37 h37 => ?_
   simp only [zca, zna, zsz, zss] at h37
   refine Plan.nil (k36 _ _ ?_); clear k36
   refine W.regionT [(0, true), (1, true), (2, true), (3, true), (4, true), (5, true), (6, false)] (by kernel_rfl) ?_
   refine Plan.move_int rfl rfl <| Plan.addN (a := 32) (b := i_27) rfl rfl rfl (by omega) <| Plan.move_int rfl rfl <| Plan.idxArr1 (j := i_27) FRef17.arr23 rfl rfl rfl (by omega) <| Plan.load1 (j := i_27) h37 2 rfl rfl rfl (by omega) FRef17.sc5 <| Plan.idxArr1 (j := (32 + i_27)) FRef17.arr31 rfl rfl rfl (by omega) ?_
   refine Plan.storeU (j := (32 + i_27)) (X := (b2 i_27)) h37 0 rfl rfl rfl rfl (by omega) FRef17.sz5 rfl fun w38 h38 => ?_
   simp only [zca, zna, zsz, zss] at h38
   refine Plan.nil ?_
   refine blockR_norm ?_
   refine k35 _ _ ?_; clear k35
   refine W.regionT [(0, true), (1, true), (2, true)] (by kernel_rfl) ?_
   refine Plan.move_int rfl rfl <| Plan.addN (a := i_27) (b := 1) rfl rfl rfl (by omega) <| Plan.assign_int rfl rfl <| Plan.nil ?_
   exact iterR_norm ⟨_, hR, (zer (zer (zer (zer (zer zen))))), h38⟩
  ·
   replace hR := ifF hR hc34
   refine W.condF (congrArg Value.bool (decide_eq_false hc34)) ?_
   refine W.exit (thenR_exit (iterR_exit (blockR_here ?_)))
   have h39 := St.pickT (C := [_, _, _, _]) h31 [0, 1] (by decide)
   simp only [pick, zfc, zfn, zgz, zgs, zca, zna] at h39
   exact ⟨m28, (hx30 _ hR).symm, (zer (zer zen)), h39⟩
 ·
  rintro ev40 wl40 ⟨y_m29, hy40, he40, h40⟩
  obtain ⟨ev40, rfl⟩ := he40.open
  subst hy40
  replace hR := hR030
  refine k9 _ _ ?_; clear k9
  refine W.seq_k fun _ k41 => W.regionT [(0, true), (1, false)] (by kernel_rfl) ?_
  refine Plan.loadA1 h40 0 rfl rfl rfl FRef17.agg31 ?_
  refine Plan.storeA (f' := fun q => VU .u8 (m29 q)) h40 1 rfl rfl rfl rfl (fun _ _ => rfl) FRef17.sz31 rfl fun w42 h42 => ?_
  simp only [zca, zna, zsz, zss] at h42
  refine Plan.nil (k41 _ _ ?_); clear k41
  refine W.ret (finR_ret ?_)
  have h43 := St.pickT (C := [_, _]) h42 [] (by decide)
  simp only [pick, zfc, zfn, zgz, zgs, zca, zna] at h43
  subst r
  refine RetOk.mk (.agg h42 rfl (.cons 1 rfl .nil) FRef17.agg31 .nil) ?_
  exact ⟨rfl, h43⟩
theorem letheref17_three_ok {B : Nat} {w0 w : World} {L : List Rg} {p1 : Nat → BitVec 8} {q_2 : Nat → BitVec 8} {r : ((Nat → BitVec 8) × Nat)} (hR : letheref17_three p1 q_2 r) (HST : St B w0 (L) w) :
  Calls Tryd.prog 33 #[AG [(96, fun q => VU .u8 (p1 q))], AG [(96, fun q => VU .u8 (q_2 q))]] w fun e w' => e = .returned (.tuple #[AG [(96, fun q => VU .u8 (r.1 q))], VN r.2]) ∧ St B w0 (L) w' := by
 refine W.enter 32 Tryd.func33 rfl rfl rfl ?_
 unfold letheref17_three at hR
 refine W.seq_k fun _ k3 => W.regionT [(0, false), (1, false), (2, false), (3, true)] (by kernel_rfl) ?_
 refine Plan.boxA HST rfl rfl PIn.nil fun b4 w4 hb4 h4 => ?_
 simp only [rngs, Nat.zero_add, Nat.reduceAdd, zca, zna] at h4
 refine Plan.boxA h4 rfl rfl PIn.nil fun b5 w5 hb5 h5 => ?_
 simp only [rngs, Nat.zero_add, Nat.reduceAdd, zca, zna] at h5
 refine Plan.alloc h5 rfl FRef17.z83 PIn.nil fun b6 w6 hb6 h6 => ?_
 simp only [rngs, Nat.zero_add, Nat.reduceAdd, zca, zna] at h6
 refine Plan.assign_int rfl rfl <| Plan.nil (k3 _ _ ?_); clear k3
 refine W.seq_k fun _ k7 => W.regionT [(0, false)] (by kernel_rfl) ?_
 refine Plan.alloc h6 rfl FRef17.z83 PIn.nil fun b8 w8 hb8 h8 => ?_
 simp only [rngs, Nat.zero_add, Nat.reduceAdd, zca, zna] at h8
 refine Plan.nil (k7 _ _ ?_); clear k7
 refine W.seq_k fun _ k9 => W.seq_k fun _ k10 => ?_
 refine W.regionT [(0, true)] (by kernel_rfl) ?_
 refine Plan.assign_int rfl rfl <| Plan.nil (k10 _ _ ?_); clear k10
 obtain ⟨x54, hI54, hR054⟩ := hR
 refine W.cutN (fun e w => ∃ y_m53 : Nat → BitVec 8, x54 = some y_m53 ∧ EnvHas e [(4, .pointer (some ⟨b6, 0, none⟩)), (6, .pointer (some ⟨b8, 0, none⟩))] ∧ St B w0 (⟨some b8, 0, 96, fun q => VU .u8 (y_m53 q), true⟩ :: ⟨some b6, 0, 96, fun q => VU .u8 ((fun _ => 0#8) q), true⟩ :: L) w) ?_ ?_
 ·
  refine W.block ?_
  refine W.iter hI54 (fun (s54 : (Nat × (Nat → BitVec 8))) e w => EnvHas e [(2, .pointer (some ⟨b4, 0, none⟩)), (3, .pointer (some ⟨b5, 0, none⟩)), (4, .pointer (some ⟨b6, 0, none⟩)), (6, .pointer (some ⟨b8, 0, none⟩)), (7, VN s54.1)] ∧ St B w0 (⟨some b8, 0, 96, fun q => VU .u8 (s54.2 q), true⟩ :: ⟨some b6, 0, 96, fun q => VU .u8 ((fun _ => 0#8) q), true⟩ :: ⟨some b5, 0, 96, fun q => VU .u8 (q_2 q), true⟩ :: ⟨some b4, 0, 96, fun q => VU .u8 (p1 q), true⟩ :: L) w) ⟨(zer (zer (zer (zer (zer zen))))), h8⟩ ?_
  rintro ⟨i_51, m52⟩ o54 hR hx54 ev55 wl55 ⟨he55, h55⟩
  obtain ⟨ev55, rfl⟩ := he55.open
  unfold letheref17_three_l0 at hR
  refine W.seq_k fun _ k56 => W.seq_k fun _ k57 => ?_
  refine W.regionT [(0, true), (1, true)] (by kernel_rfl) ?_
  refine Plan.move_int rfl rfl <| Plan.cmpP (a := (((i_51 : Nat) : Int) : Int)) (b := (3 : Int)) (p := i_51 < 3) rfl rfl rfl rfl icmp_ltN <| Plan.nil (k57 _ _ ?_); clear k57
  by_cases hc58 : i_51 < 3
  ·
   replace hR := ifT hR hc58
   refine W.condT (congrArg Value.bool (decide_eq_true hc58)) ?_
   refine W.skip ?_
   refine k56 _ _ ?_; clear k56
   refine W.seq_k fun _ k59 => ?_
   refine W.block ?_
   refine W.seq_k fun _ k60 => ?_
   refine W.regionX (B := B) (w0 := w0) (L := L) FRef17.mixed [⟨10, 8, 23, [(32, fun q => VU .u8 ((fun _ => 0#8) q))]⟩] [(0, true), (1, true), (2, true), (3, true), (4, true), (5, true)] [[(6, false), (7, true), (8, true), (9, true)]] [(11, false), (12, true)] (by kernel_rfl) (by kernel_rfl) (.cons FRef17.z23 .nil) ?_
   have h61 := h55.drew
   refine Plan.move_int rfl rfl <| Plan.idxArrO (j := i_51) (o' := 0 + (i_51 * 32)) FRef17.arr83 rfl rfl rfl (by omega) (by omega) <| Plan.loadSub (m' := 32) h61 3 (i_51 * 32) rfl rfl rfl rfl (by omega) FRef17.agg23 <| Plan.move_int rfl rfl <| Plan.idxArrO (j := i_51) (o' := 0 + (i_51 * 32)) FRef17.arr83 rfl rfl rfl (by omega) (by omega) <| Plan.loadSub (m' := 32) h61 2 (i_51 * 32) rfl rfl rfl rfl (by omega) FRef17.agg23 ?_
   refine Plan.nil ⟨[_, _, _, _], h61, (PIn.cons 2 rfl (PIn.cons 3 rfl PIn.nil)), ?_⟩
   refine PX.step fun C62 z62 w62 h62 => ?_
   simp only [zca, zna] at h62
   obtain ⟨x_64, x_65, hr63, hR⟩ := hR
   refine Plan.call (vs := [AG [(32, fun q => VU .u8 ((fun q => p1 ((i_51 * 32) + q)) q))], AG [(32, fun q => VU .u8 ((fun q => q_2 ((i_51 * 32) + q)) q))]]) rfl FRef17.call51 rfl (letheref07_Shared_ok  hr63 h62) ?_
   rintro _ w66 ⟨rfl, h66⟩
   refine ⟨_, rfl, .inr ⟨rfl, ?_⟩⟩
   refine Plan.move_tuple rfl rfl <| Plan.extract_agg rfl rfl rfl <| Plan.extract_int rfl rfl rfl ?_
   refine Plan.nil ⟨[_, _, _, _], h66, PIn.nil, ?_⟩
   refine PX.done (KE.step fun b67_10 => (KE.fin fun w67 h67 => ?_))
   simp only [rngs, Nat.zero_add, Nat.reduceAdd, zca, zna] at h67
   refine Plan.storeA (f' := fun q => VU .u8 (x_64 q)) h67 4 rfl rfl rfl rfl (fun _ _ => rfl) FRef17.sz23 rfl fun w68 h68 => ?_
   simp only [zca, zna, zsz, zss] at h68
   refine Plan.assign_int rfl rfl <| Plan.nil (k60 _ _ ?_); clear k60
   refine W.seq_k fun _ k69 => W.seq_k fun _ k70 => ?_
   refine W.regionT [(0, true), (1, true)] (by kernel_rfl) ?_
   refine Plan.move_int rfl rfl <| Plan.cmpP (a := (((x_65 : Nat) : Int) : Int)) (b := (0 : Int)) (p := x_65 ≠ 0) rfl rfl rfl rfl icmp_neN <| Plan.nil (k70 _ _ ?_); clear k70
   by_cases hc71 : x_65 ≠ 0
   ·
    replace hR := ifT hR hc71
    refine W.condT (congrArg Value.bool (decide_eq_true hc71)) ?_
    refine W.seq_k fun _ k72 => W.regionT [(0, true), (1, true), (2, false), (3, true)] (by kernel_rfl) ?_
    refine Plan.loadA1 h68 0 rfl rfl rfl FRef17.agg83 <| Plan.move_int rfl rfl ?_
    refine Plan.storeA (f' := fun q => VU .u8 (m52 q)) h68 1 rfl rfl rfl rfl (fun _ _ => rfl) FRef17.sz83 rfl fun w73 h73 => ?_
    simp only [zca, zna, zsz, zss] at h73
    refine Plan.assign_int rfl rfl <| Plan.nil (k72 _ _ ?_); clear k72
    refine W.ret (thenR_ret (blockR_ret (thenR_ret (iterR_ret (blockR_ret (thenR_ret (thenR_ret (finR_ret ?_))))))))
    have h74 := St.pickT (C := [_, _, _, _, _]) h73 [] (by decide)
    simp only [pick, zfc, zfn, zgz, zgs, zca, zna] at h74
    replace hR := hR.2
    subst r
    refine RetOk.mk (.agg h73 rfl (.cons 1 rfl .nil) FRef17.agg83 (.tmp_int rfl .nil)) ?_
    exact ⟨rfl, h74⟩
   ·
    replace hR := ifF hR hc71
    refine W.condF (congrArg Value.bool (decide_eq_false hc71)) ?_
    refine W.skip ?_
    refine k69 _ _ ?_; clear k69
    refine W.regionT [(0, true), (1, true), (2, true), (3, false)] (by kernel_rfl) ?_
    refine Plan.move_int rfl rfl <| Plan.loadA1 h68 4 rfl rfl rfl FRef17.agg23 <| Plan.idxArrO (j := i_51) (o' := 0 + (i_51 * 32)) FRef17.arr83 rfl rfl rfl (by omega) (by omega) ?_
    refine Plan.storeSub (m' := 32) (j := i_51 * 32) (f' := fun q => VU .u8 (x_64 q)) h68 0 rfl rfl rfl rfl rfl (by omega) (fun _ _ => rfl) FRef17.sz23 (EffO.wait rfl) fun w75 h75 => ?_
    simp only [zca, zna, zsz, zss] at h75
    simp only [← spl_map (fun z => VU .u8 z)] at h75
    refine Plan.nil ?_
    refine blockR_norm ?_
    refine k59 _ _ ?_; clear k59
    refine W.regionT [(0, true), (1, true), (2, true)] (by kernel_rfl) ?_
    refine Plan.move_int rfl rfl <| Plan.addN (a := i_51) (b := 1) rfl rfl rfl (by omega) <| Plan.assign_int rfl rfl <| Plan.nil ?_
    have h76 := St.pickT (C := [_, _, _, _, _]) h75 [0, 1, 2, 3] (by decide)
    simp only [pick, zfc, zfn, zgz, zgs, zca, zna] at h76
    exact iterR_norm ⟨_, hR, (zer (zer (zer (zer (zer zen))))), h76⟩
  ·
   replace hR := ifF hR hc58
   refine W.condF (congrArg Value.bool (decide_eq_false hc58)) ?_
   refine W.exit (thenR_exit (iterR_exit (blockR_here ?_)))
   have h77 := St.pickT (C := [_, _, _, _]) h55 [0, 1] (by decide)
   simp only [pick, zfc, zfn, zgz, zgs, zca, zna] at h77
   exact ⟨m52, (hx54 _ hR).symm, (zer (zer zen)), h77⟩
 ·
  rintro ev78 wl78 ⟨y_m53, hy78, he78, h78⟩
  obtain ⟨ev78, rfl⟩ := he78.open
  replace hR := hR054 y_m53 hy78
  obtain ⟨m53, e_m53⟩ : ∃ z, z = y_m53 := ⟨_, rfl⟩; subst e_m53
  refine k9 _ _ ?_; clear k9
  refine W.seq_k fun _ k79 => W.regionT [(0, true), (1, false), (2, true)] (by kernel_rfl) ?_
  refine Plan.loadA1 h78 0 rfl rfl rfl FRef17.agg83 ?_
  refine Plan.storeA (f' := fun q => VU .u8 (m53 q)) h78 1 rfl rfl rfl rfl (fun _ _ => rfl) FRef17.sz83 rfl fun w80 h80 => ?_
  simp only [zca, zna, zsz, zss] at h80
  refine Plan.assign_int rfl rfl <| Plan.nil (k79 _ _ ?_); clear k79
  refine W.ret (finR_ret ?_)
  have h81 := St.pickT (C := [_, _]) h80 [] (by decide)
  simp only [pick, zfc, zfn, zgz, zgs, zca, zna] at h81
  subst r
  refine RetOk.mk (.agg h80 rfl (.cons 1 rfl .nil) FRef17.agg83 (.tmp_int rfl .nil)) ?_
  exact ⟨rfl, h81⟩
theorem letheref17_Made_ok {B : Nat} {w0 w : World} {L : List Rg} {iG4 : Nat} (hG4 : L[iG4]? = some ⟨some 4, 0, 8, fun q => VU .u64 (H64 q), false⟩) {iG5 : Nat} (hG5 : L[iG5]? = some ⟨some 5, 0, 64, fun q => VU .u64 (K64 q), false⟩) {x_1 : Nat → BitVec 8} {y2 : Nat → BitVec 8} {z3 : Nat → BitVec 8} {r : ((Nat → BitVec 8) × (Nat → BitVec 8))} (hR : letheref17_Made x_1 y2 z3 r) (HST : St B w0 (L) w) :
  Calls Tryd.prog 34 #[AG [(32, fun q => VU .u8 (x_1 q))], AG [(32, fun q => VU .u8 (y2 q))], AG [(32, fun q => VU .u8 (z3 q))]] w fun e w' => e = .returned (.tuple #[AG [(32, fun q => VU .u8 (r.1 q))], AG [(16, fun q => VU .u8 (r.2 q))]]) ∧ St B w0 (L) w' := by
 refine W.enter 57 Tryd.func34 rfl rfl rfl ?_
 unfold letheref17_Made at hR
 refine W.seq_k fun _ k4 => W.regionT [(0, false), (1, false), (2, false), (3, false), (4, false)] (by kernel_rfl) ?_
 refine Plan.boxA HST rfl rfl PIn.nil fun b5 w5 hb5 h5 => ?_
 simp only [rngs, Nat.zero_add, Nat.reduceAdd, zca, zna] at h5
 refine Plan.boxA h5 rfl rfl PIn.nil fun b6 w6 hb6 h6 => ?_
 simp only [rngs, Nat.zero_add, Nat.reduceAdd, zca, zna] at h6
 refine Plan.boxA h6 rfl rfl PIn.nil fun b7 w7 hb7 h7 => ?_
 simp only [rngs, Nat.zero_add, Nat.reduceAdd, zca, zna] at h7
 refine Plan.alloc h7 rfl FRef17.z23 PIn.nil fun b8 w8 hb8 h8 => ?_
 simp only [rngs, Nat.zero_add, Nat.reduceAdd, zca, zna] at h8
 refine Plan.alloc h8 rfl FRef17.z30 PIn.nil fun b9 w9 hb9 h9 => ?_
 simp only [rngs, Nat.zero_add, Nat.reduceAdd, zca, zna] at h9
 refine Plan.nil (k4 _ _ ?_); clear k4
 refine W.seq_k fun _ k10 => W.regionT [(0, false), (1, true)] (by kernel_rfl) ?_
 refine Plan.makeO (len := 32) (c := 32) h9 FRef17.el40 rfl rfl rfl (by omega) (by omega) (fun _ => EffO.keep PIn.nil) fun b11 w11 hb11 ho11 h11 => ?_
 refine Plan.assign_slice rfl rfl <| Plan.nil (k10 _ _ ?_); clear k10
 refine W.seq_k fun _ k12 => W.seq_k fun _ k13 => ?_
 refine W.regionT [(0, true)] (by kernel_rfl) ?_
 refine Plan.assign_int rfl rfl <| Plan.nil (k13 _ _ ?_); clear k13
 obtain ⟨in_31, hI32, hR032⟩ := hR
 refine W.cutN (fun e w => ∃ y_in_31 : List Byte, in_31 = y_in_31 ∧ ∃ ain_31 : Option Addr, ∃ pin_31 : Option Nat, ∃ cin_31 : Nat, ∃ Fin_31 : Nat → Byte, EnvHas e [(3, .pointer (some ⟨b5, 0, none⟩)), (4, .pointer (some ⟨b6, 0, none⟩)), (5, .pointer (some ⟨b7, 0, none⟩)), (6, .pointer (some ⟨b8, 0, none⟩)), (7, .pointer (some ⟨b9, 0, none⟩)), (8, .slice ain_31 ((List.replicate 32 0#8).length) cin_31)] ∧ St B w0 (⟨pin_31, 0, cin_31, fun q => VU .u8 (Fin_31 q), true⟩ :: ⟨some b9, 0, 16, fun q => VU .u8 ((fun _ => 0#8) q), true⟩ :: ⟨some b8, 0, 32, fun q => VU .u8 ((fun _ => 0#8) q), true⟩ :: ⟨some b7, 0, 32, fun q => VU .u8 (z3 q), true⟩ :: ⟨some b6, 0, 32, fun q => VU .u8 (y2 q), true⟩ :: ⟨some b5, 0, 32, fun q => VU .u8 (x_1 q), true⟩ :: L) w ∧ Ow ain_31 pin_31 ((List.replicate 32 0#8).length) cin_31 Fin_31 y_in_31) ?_ ?_
 ·
  refine W.block ?_
  refine W.iter hI32 (fun (s32 : ((List Byte) × Nat)) e w => ∃ ain_29 : Option Addr, ∃ pin_29 : Option Nat, ∃ cin_29 : Nat, ∃ Fin_29 : Nat → Byte, EnvHas e [(3, .pointer (some ⟨b5, 0, none⟩)), (4, .pointer (some ⟨b6, 0, none⟩)), (5, .pointer (some ⟨b7, 0, none⟩)), (6, .pointer (some ⟨b8, 0, none⟩)), (7, .pointer (some ⟨b9, 0, none⟩)), (8, .slice ain_29 ((List.replicate 32 0#8).length) cin_29), (9, VN s32.2)] ∧ St B w0 (⟨pin_29, 0, cin_29, fun q => VU .u8 (Fin_29 q), true⟩ :: ⟨some b9, 0, 16, fun q => VU .u8 ((fun _ => 0#8) q), true⟩ :: ⟨some b8, 0, 32, fun q => VU .u8 ((fun _ => 0#8) q), true⟩ :: ⟨some b7, 0, 32, fun q => VU .u8 (z3 q), true⟩ :: ⟨some b6, 0, 32, fun q => VU .u8 (y2 q), true⟩ :: ⟨some b5, 0, 32, fun q => VU .u8 (x_1 q), true⟩ :: L) w ∧ Ow ain_29 pin_29 ((List.replicate 32 0#8).length) cin_29 Fin_29 s32.1) ⟨some ⟨b11, 0, none⟩, some b11, 32, (fun _ => 0#8), (zer (zer (zer (zer (zer (zer (zer zen))))))), h11, ho11⟩ ?_
  rintro ⟨in_29, i_30⟩ o32 hR hx32 ev33 wl33 ⟨ain_29, pin_29, cin_29, Fin_29, he33, h33, hin_29⟩
  obtain ⟨ev33, rfl⟩ := he33.open
  unfold letheref17_Made_l0 at hR
  refine W.seq_k fun _ k34 => W.seq_k fun _ k35 => ?_
  refine W.regionT [(0, true), (1, true)] (by kernel_rfl) ?_
  refine Plan.move_int rfl rfl <| Plan.cmpP (a := (((i_30 : Nat) : Int) : Int)) (b := (32 : Int)) (p := i_30 < 32) rfl rfl rfl rfl icmp_ltN <| Plan.nil (k35 _ _ ?_); clear k35
  by_cases hc36 : i_30 < 32
  ·
   replace hR := ifT hR hc36
   refine W.condT (congrArg Value.bool (decide_eq_true hc36)) ?_
   refine W.skip ?_
   refine k34 _ _ ?_; clear k34
   refine W.seq_k fun _ k37 => ?_
   refine W.block ?_
   refine W.regionT [(0, true), (1, true), (2, true), (3, false)] (by kernel_rfl) ?_
   refine Plan.move_slice rfl rfl <| Plan.move_int rfl rfl ?_
   obtain ⟨hc38, hR⟩ := hR
   refine Plan.idxVS (j := i_30) h33 (hin_29.bx 0 rfl) FRef17.sl40 rfl rfl rfl hc38 ?_
   refine Plan.storeO (j := i_30) (Y := 255#8) h33 0 hin_29 rfl rfl rfl rfl hc38 FRef17.sz5 rfl fun w39 F39 ho39 h39 => ?_
   simp only [zca, zna, zsz, zss] at h39
   have e39 : (in_29.set i_30 (255#8)).length = in_29.length := List.length_set
   refine Plan.nil ?_
   refine blockR_norm ?_
   refine k37 _ _ ?_; clear k37
   refine W.regionT [(0, true), (1, true), (2, true)] (by kernel_rfl) ?_
   refine Plan.move_int rfl rfl <| Plan.addN (a := i_30) (b := 1) rfl rfl rfl (by omega) <| Plan.assign_int rfl rfl <| Plan.nil ?_
   exact iterR_norm ⟨_, hR, ain_29, pin_29, cin_29, F39, (zer (zer (zer (zer (zer (zer (zer zen))))))), h39, (show Ow _ _ ((List.replicate 32 0#8).length) _ _ _ from ho39)⟩
  ·
   replace hR := ifF hR hc36
   refine W.condF (congrArg Value.bool (decide_eq_false hc36)) ?_
   refine W.exit (thenR_exit (iterR_exit (blockR_here ?_)))
   exact ⟨in_29, (hx32 _ hR).symm, ain_29, pin_29, cin_29, Fin_29, (zer (zer (zer (zer (zer (zer zen)))))), h33, hin_29⟩
 ·
  rintro ev40 wl40 ⟨y_in_31, hy40, ain_31, pin_31, cin_31, Fin_31, he40, h40, hin_31⟩
  obtain ⟨ev40, rfl⟩ := he40.open
  subst hy40
  replace hR := hR032
  refine k12 _ _ ?_; clear k12
  refine W.seq_k fun _ k41 => ?_
  obtain ⟨b682, hX683, hR0683⟩ := hR
  refine W.cutN (fun e w => ∃ y_b682 : List Byte, (b682 = y_b682) ∧ ∃ rb682 : Rg, ∃ ab682 : Option Addr, ∃ cb682 : Nat, EnvHas e [(6, .pointer (some ⟨b8, 0, none⟩)), (7, .pointer (some ⟨b9, 0, none⟩)), (10, .slice ab682 y_b682.length cb682)] ∧ St B w0 (rb682 :: ⟨some b9, 0, 16, fun q => VU .u8 ((fun _ => 0#8) q), true⟩ :: ⟨some b8, 0, 32, fun q => VU .u8 ((fun _ => 0#8) q), true⟩ :: L) w ∧ Bx (rb682 :: ⟨some b9, 0, 16, fun q => VU .u8 ((fun _ => 0#8) q), true⟩ :: ⟨some b8, 0, 32, fun q => VU .u8 ((fun _ => 0#8) q), true⟩ :: L) 0 ab682 y_b682.length cb682 y_b682) ?_ ?_
  ·
   replace hR := hX683
   refine W.regionF FRef17.mixed (.fork [(1, true), (2, true), (3, true), (4, true)] (.fork [(0, false)] (.fork [(5, false)] (.line [(6, false), (7, false), (8, false), (9, false), (10, true), (11, true), (12, true), (13, true), (14, true)]) (.fork [(7, false)] (.line [(6, false), (8, false), (9, false), (10, true), (11, true), (12, true), (13, true), (14, true)]) (.line [(8, false), (6, false), (9, false), (10, true), (11, true), (12, true), (13, true), (14, true)]))) (.fork [(7, false)] (.fork [(5, false)] (.line [(6, false), (8, false), (9, false), (10, true), (11, true), (12, true), (13, true), (14, true)]) (.line [(8, false), (6, false), (9, false), (10, true), (11, true), (12, true), (13, true), (14, true)])) (.line [(8, false), (5, false), (6, false), (9, false), (10, true), (11, true), (12, true), (13, true), (14, true)]))) (.fork [] (.fork [(5, false)] (.fork [(0, false)] (.line [(6, false), (7, false), (8, false), (9, false), (10, true), (11, true), (12, true), (13, true), (14, true)]) (.fork [(7, false)] (.line [(6, false), (8, false), (9, false), (10, true), (11, true), (12, true), (13, true), (14, true)]) (.line [(8, false), (6, false), (9, false), (10, true), (11, true), (12, true), (13, true), (14, true)]))) (.fork [] (.fork [(6, false)] (.line [(0, false), (7, false), (8, false), (9, false), (10, true), (11, true), (12, true), (13, true), (14, true)]) (.fork [(7, false)] (.line [(0, false), (8, false), (9, false), (10, true), (11, true), (12, true), (13, true), (14, true)]) (.line [(8, false), (0, false), (9, false), (10, true), (11, true), (12, true), (13, true), (14, true)]))) (.fork [(7, false)] (.fork [(0, false)] (.line [(6, false), (8, false), (9, false), (10, true), (11, true), (12, true), (13, true), (14, true)]) (.line [(8, false), (6, false), (9, false), (10, true), (11, true), (12, true), (13, true), (14, true)])) (.fork [] (.fork [(6, false)] (.line [(0, false), (8, false), (9, false), (10, true), (11, true), (12, true), (13, true), (14, true)]) (.line [(8, false), (0, false), (9, false), (10, true), (11, true), (12, true), (13, true), (14, true)])) (.fork [(8, false)] (.line [(0, false), (6, false), (9, false), (10, true), (11, true), (12, true), (13, true), (14, true)]) (.line [(6, false), (0, false), (9, false), (10, true), (11, true), (12, true), (13, true), (14, true)])))))) (.fork [(7, false)] (.fork [(0, false)] (.fork [(5, false)] (.line [(6, false), (8, false), (9, false), (10, true), (11, true), (12, true), (13, true), (14, true)]) (.line [(8, false), (6, false), (9, false), (10, true), (11, true), (12, true), (13, true), (14, true)])) (.line [(8, false), (5, false), (6, false), (9, false), (10, true), (11, true), (12, true), (13, true), (14, true)])) (.fork [] (.fork [(5, false)] (.fork [(0, false)] (.line [(6, false), (8, false), (9, false), (10, true), (11, true), (12, true), (13, true), (14, true)]) (.line [(8, false), (6, false), (9, false), (10, true), (11, true), (12, true), (13, true), (14, true)])) (.fork [] (.fork [(6, false)] (.line [(0, false), (8, false), (9, false), (10, true), (11, true), (12, true), (13, true), (14, true)]) (.line [(8, false), (0, false), (9, false), (10, true), (11, true), (12, true), (13, true), (14, true)])) (.fork [(8, false)] (.line [(0, false), (6, false), (9, false), (10, true), (11, true), (12, true), (13, true), (14, true)]) (.line [(6, false), (0, false), (9, false), (10, true), (11, true), (12, true), (13, true), (14, true)])))) (.fork [(8, false)] (.line [(0, false), (5, false), (6, false), (9, false), (10, true), (11, true), (12, true), (13, true), (14, true)]) (.fork [(5, false)] (.line [(0, false), (6, false), (9, false), (10, true), (11, true), (12, true), (13, true), (14, true)]) (.line [(6, false), (0, false), (9, false), (10, true), (11, true), (12, true), (13, true), (14, true)]))))))) (by kernel_rfl) (PlanT.toFork ?_)
   have h684 := h40.drew
   refine Plan.move_slice rfl rfl <| Plan.slArrO (lo := 0) (hi := 32) (m := 32) (c := 32) (o' := 0) FRef17.arr23 rfl rfl rfl rfl (by omega) (by omega) (by omega) (by omega) <| Plan.slArrO (lo := 0) (hi := 32) (m := 32) (c := 32) (o' := 0) FRef17.arr23 rfl rfl rfl rfl (by omega) (by omega) (by omega) (by omega) <| Plan.slArrO (lo := 0) (hi := 32) (m := 32) (c := 32) (o' := 0) FRef17.arr23 rfl rfl rfl rfl (by omega) (by omega) (by omega) (by omega) ?_
   obtain ⟨x_689, hr688, hR⟩ := hR
   obtain ⟨t985, he_t985, hR⟩ := hR
   obtain ⟨t986, he_t986, hR⟩ := hR
   refine Plan.sharedF (σ := [(9, false), (10, true), (11, true), (12, true), (13, true), (14, true)]) (Q := fun e w => ∃ at985 : Option Addr, ∃ pt985 : Option Nat, ∃ ct985 : Nat, ∃ Ft985 : Nat → Byte, ∃ at986 : Option Addr, ∃ pt986 : Option Nat, ∃ ct986 : Nat, ∃ Ft986 : Nat → Byte, ∃ b987 : Nat, EnvHas e [(6, .pointer (some ⟨b8, 0, none⟩)), (7, .pointer (some ⟨b9, 0, none⟩)), (24, .slice at985 ((List.replicate 32 0#8).length) ct985), (30, .slice at986 x_689.length ct986), (32, .slice (some ⟨b987, 0, none⟩) 11 11)] ∧ St B w0 (⟨pt985, 0, ct985, fun q => VU .u8 (Ft985 q), true⟩ :: ⟨pt986, 0, ct986, fun q => VU .u8 (Ft986 q), true⟩ :: ⟨some b987, 0, 11, fun q => VU .u8 ((lit ([108#8, 101#8, 116#8, 104#8, 101#8, 32#8, 102#8, 105#8, 114#8, 115#8, 116#8] : List Byte)) q), false⟩ :: ⟨some b9, 0, 16, fun q => VU .u8 ((fun _ => 0#8) q), true⟩ :: ⟨some b8, 0, 32, fun q => VU .u8 ((fun _ => 0#8) q), true⟩ :: L) w ∧ Ow at985 pt985 ((List.replicate 32 0#8).length) ct985 Ft985 t985 ∧ Ow at986 pt986 x_689.length ct986 Ft986 t986) ?_ fun hT988 => ⟨?_, ?_⟩
   ·
    rintro ev989 wl989 ⟨at985, pt985, ct985, Ft985, at986, pt986, ct986, Ft986, b987, he989, h989, ht985, ht986⟩
    obtain ⟨ev989, rfl⟩ := he989.open
    rcases hR with ⟨x_991, x_992, hr990, hR⟩ | ⟨x_993, x_994, hr990, hR⟩
    ·
     refine Plan.call (vs := [.slice at985 ((List.replicate 32 0#8).length) ct985, .slice at986 x_689.length ct986, .slice (some ⟨b987, 0, none⟩) 11 11, VN 48]) rfl FRef17.call52 rfl (letheref03_Derive_ok (iG4 := iG4 + 5) hG4 (iG5 := iG5 + 5) hG5 (by exact (ht985.bx 0 rfl)) (by exact (ht986.bx 1 rfl)) (by exact (Bx.arr0 (n := 11) (cc := 11) 2 rfl (by omega) (by omega))) hr990 h989) ?_
     rintro _ w1000 ⟨ay0_995, py0_996, ny0_997, cy0_998, Fy0_999, rfl, h1000, hf1000_0⟩
     try dsimp only at hf1000_0
     obtain rfl := hf1000_0.hl
     refine ⟨_, rfl, .inl ⟨PIn.keep PIn.nil h1000, ?_⟩⟩
     refine Plan.move_tuple rfl rfl <| Plan.extract_slice rfl rfl rfl <| Plan.extract_int rfl rfl rfl <| Plan.assign_slice rfl rfl <| Plan.assign_int rfl rfl <| Plan.nil ?_
     have h1001 := St.pickT (C := [_, _, _, _, _, _]) h1000 [0, 4, 5] (by decide)
     simp only [pick, zfc, zfn, zgz, zgs, zca, zna] at h1001
     exact ⟨x_991, hR, ⟨py0_996, 0, cy0_998, fun q => VU .u8 (Fy0_999 q), true⟩, ay0_995, cy0_998, (zer (zer (zer zen))), h1001, (hf1000_0.bx 0 rfl)⟩
    ·
     refine Plan.call (vs := [.slice at985 ((List.replicate 32 0#8).length) ct985, .slice at986 x_689.length ct986, .slice (some ⟨b987, 0, none⟩) 11 11, VN 48]) rfl FRef17.call52 rfl (letheref03_Derive_ok (iG4 := iG4 + 5) hG4 (iG5 := iG5 + 5) hG5 (by exact (ht985.bx 0 rfl)) (by exact (ht986.bx 1 rfl)) (by exact (Bx.arr0 (n := 11) (cc := 11) 2 rfl (by omega) (by omega))) hr990 h989) ?_
     rintro _ w1006 ⟨ry0_1002, ay0_1003, ny0_1004, cy0_1005, rfl, h1006, hf1006_0⟩
     try dsimp only at hf1006_0
     obtain rfl := hf1006_0.hl
     refine ⟨_, rfl, .inl ⟨PIn.keep PIn.nil h1006, ?_⟩⟩
     refine Plan.move_tuple rfl rfl <| Plan.extract_slice rfl rfl rfl <| Plan.extract_int rfl rfl rfl <| Plan.assign_slice rfl rfl <| Plan.assign_int rfl rfl <| Plan.nil ?_
     have h1007 := St.pickT (C := [_, _, _, _, _, _]) h1006 [0, 4, 5] (by decide)
     simp only [pick, zfc, zfn, zgz, zgs, zca, zna] at h1007
     exact ⟨x_993, hR, ry0_1002, ay0_1003, cy0_1005, (zer (zer (zer zen))), h1007, (Bx.move (j := 0) hf1006_0 rfl rfl)⟩
   ·
    subst he_t985
    subst he_t986
    refine PlanT.toFork ?_
    refine Plan.makeO (len := 32) (c := 32) h684 FRef17.el40 rfl rfl rfl (by omega) (by omega) (fun _ => EffO.keep PIn.nil) fun b1008 w1008 hb1008 ho1008 h1008 => ?_
    refine Plan.forked ?_ ?_
    ·
     refine PlanT.toFork ?_
     refine Plan.buildSlice h1008 (ps := [(4, fun i => .slice ((fun i => ([ain_31, some ⟨b5, 0, none⟩, some ⟨b6, 0, none⟩, some ⟨b7, 0, none⟩] : List (Option Addr)).getD i none) i) ((fun i => ([(List.replicate 32 0#8).length, 32, 32, 32] : List Nat).getD i 0) i) ((fun i => ([cin_31, 32, 32, 32] : List Nat).getD i 0) i))]) FRef17.slu102 FRef17.sz40 FRef17.zv40 (by decide) (by decide) rfl rfl rfl (EffO.keep PIn.nil) fun b1010 w1010 hb1010 h1010 => ?_
     simp only [rngs, List.cons_append, List.nil_append] at h1010
     refine Plan.forked ?_ ?_
     ·
      refine PlanT.toLine ?_
      refine Plan.call (vs := [.slice (some ⟨b1010, 0, none⟩) 4 4]) rfl FRef17.call53 rfl (letheref03_Joined_ok (by exact (Bss.of 0 rfl rfl (fun i hi => match i, hi with | 0, _ => ⟨_, (hin_31.bx 2 rfl)⟩ | 1, _ => ⟨_, (Bx.arr0 (n := 32) (cc := 32) 7 rfl (by omega) (by omega))⟩ | 2, _ => ⟨_, (Bx.arr0 (n := 32) (cc := 32) 6 rfl (by omega) (by omega))⟩ | 3, _ => ⟨_, (Bx.arr0 (n := 32) (cc := 32) 5 rfl (by omega) (by omega))⟩ | k + 4, hk => absurd hk (by omega)))) hr688 h1010) ?_
      rintro _ w1018 ⟨ay0_1013, py0_1014, ny0_1015, cy0_1016, Fy0_1017, rfl, h1018, hf1018_0⟩
      obtain rfl := hf1018_0.hl
      refine ⟨_, rfl, .inl ⟨PIn.keep PIn.nil h1018, ?_⟩⟩
      refine Plan.constBytesO PIn.nil h1018 (f := fun q => VU .u8 (lit ([108#8, 101#8, 116#8, 104#8, 101#8, 32#8, 102#8, 105#8, 114#8, 115#8, 116#8] : List Byte) q)) FRef17.slu40 FRef17.u5 FRef17.sz5 FRef17.zv5 (by decide) (by decide) rfl (fun _ => rfl) (fun _ => rfl) rfl (by kernel_rfl) fun b1019 w1019 hb1019 h1019 => ?_
      have h1020 := St.pickT (C := [_, _, _, _, _, _, _, _, _, _]) h1019 [3, 1, 0, 5, 6] (by decide)
      simp only [pick, zfc, zfn, zgz, zgs, zca, zna] at h1020
      exact hT988 _ _ ⟨some ⟨b1008, 0, none⟩, some b1008, 32, (fun _ => 0#8), ay0_1013, py0_1014, cy0_1016, Fy0_1017, b1019, (zer (zer (zer (zer (zer zen))))), h1020, ho1008, hf1018_0⟩
     ·
      refine PlanT.toFork ?_
      refine Plan.constBuild PIn.nil h1010 (f := fun q => VU .u8 (lit ([108#8, 101#8, 116#8, 104#8, 101#8, 32#8, 102#8, 105#8, 114#8, 115#8, 116#8] : List Byte) q)) FRef17.slu40 FRef17.sz5 FRef17.zv5 (by decide) (by decide) rfl rfl (by kernel_rfl) fun b1021 w1021 hb1021 hk1021 h1021 => ?_
      refine Plan.forked ?_ ?_
      ·
       refine PlanT.toLine ?_
       have h1029 := St.asro h1021
       simp only [List.map_cons, Rg.ro_mk] at h1029
       refine Plan.call (vs := [.slice (some ⟨b1010, 0, none⟩) 4 4]) rfl FRef17.call53 rfl (letheref03_Joined_ok (by exact (Bss.of 1 rfl rfl (fun i hi => match i, hi with | 0, _ => ⟨_, (hin_31.bx 3 rfl)⟩ | 1, _ => ⟨_, (Bx.arr0 (n := 32) (cc := 32) 8 rfl (by omega) (by omega))⟩ | 2, _ => ⟨_, (Bx.arr0 (n := 32) (cc := 32) 7 rfl (by omega) (by omega))⟩ | 3, _ => ⟨_, (Bx.arr0 (n := 32) (cc := 32) 6 rfl (by omega) (by omega))⟩ | k + 4, hk => absurd hk (by omega)))) hr688 h1029) ?_
       rintro _ w1030 ⟨ay0_1024, py0_1025, ny0_1026, cy0_1027, Fy0_1028, rfl, h1030, hf1030_0⟩
       have hk1030_b1021 := (h1030.below.block _ (hk_lt hk1021)).trans hk1021
       replace h1030 := St.unro (N := [_]) h1021 h1030 (by intro r hr; simp only [List.mem_cons, List.not_mem_nil, or_false] at hr; rcases hr with rfl <;> rfl)
       simp only [zca, zna] at h1030
       obtain rfl := hf1030_0.hl
       refine ⟨_, rfl, .inl ⟨PIn.keep PIn.nil h1030, ?_⟩⟩
       refine Plan.constConv PIn.nil h1030 hb1021 hk1030_b1021 FRef17.slu40 FRef17.u5 rfl rfl fun w1031 h1031 => ?_
       have h1032 := St.pickT (C := [_, _, _, _, _, _, _, _, _, _]) h1031 [3, 0, 1, 5, 6] (by decide)
       simp only [pick, zfc, zfn, zgz, zgs, zca, zna] at h1032
       exact hT988 _ _ ⟨some ⟨b1008, 0, none⟩, some b1008, 32, (fun _ => 0#8), ay0_1024, py0_1025, cy0_1027, Fy0_1028, b1021, (zer (zer (zer (zer (zer zen))))), h1032, ho1008, hf1030_0⟩
      ·
       refine PlanT.toLine ?_
       refine Plan.constConv PIn.nil h1021 hb1021 hk1021 FRef17.slu40 FRef17.u5 rfl rfl fun w1033 h1033 => ?_
       refine Plan.call (vs := [.slice (some ⟨b1010, 0, none⟩) 4 4]) rfl FRef17.call53 rfl (letheref03_Joined_ok (by exact (Bss.of 1 rfl rfl (fun i hi => match i, hi with | 0, _ => ⟨_, (hin_31.bx 3 rfl)⟩ | 1, _ => ⟨_, (Bx.arr0 (n := 32) (cc := 32) 8 rfl (by omega) (by omega))⟩ | 2, _ => ⟨_, (Bx.arr0 (n := 32) (cc := 32) 7 rfl (by omega) (by omega))⟩ | 3, _ => ⟨_, (Bx.arr0 (n := 32) (cc := 32) 6 rfl (by omega) (by omega))⟩ | k + 4, hk => absurd hk (by omega)))) hr688 h1033) ?_
       rintro _ w1041 ⟨ay0_1036, py0_1037, ny0_1038, cy0_1039, Fy0_1040, rfl, h1041, hf1041_0⟩
       obtain rfl := hf1041_0.hl
       refine ⟨_, rfl, .inl ⟨PIn.keep PIn.nil h1041, ?_⟩⟩
       have h1042 := St.pickT (C := [_, _, _, _, _, _, _, _, _, _]) h1041 [3, 0, 1, 5, 6] (by decide)
       simp only [pick, zfc, zfn, zgz, zgs, zca, zna] at h1042
       exact hT988 _ _ ⟨some ⟨b1008, 0, none⟩, some b1008, 32, (fun _ => 0#8), ay0_1036, py0_1037, cy0_1039, Fy0_1040, b1021, (zer (zer (zer (zer (zer zen))))), h1042, ho1008, hf1041_0⟩
    ·
     refine PlanT.toFork ?_
     refine Plan.constBuild PIn.nil h1008 (f := fun q => VU .u8 (lit ([108#8, 101#8, 116#8, 104#8, 101#8, 32#8, 102#8, 105#8, 114#8, 115#8, 116#8] : List Byte) q)) FRef17.slu40 FRef17.sz5 FRef17.zv5 (by decide) (by decide) rfl rfl (by kernel_rfl) fun b1043 w1043 hb1043 hk1043 h1043 => ?_
     refine Plan.forked ?_ ?_
     ·
      refine PlanT.toFork ?_
      have h1046 := St.asro h1043
      simp only [List.map_cons, Rg.ro_mk] at h1046
      refine Plan.buildSlice h1046 (ps := [(4, fun i => .slice ((fun i => ([ain_31, some ⟨b5, 0, none⟩, some ⟨b6, 0, none⟩, some ⟨b7, 0, none⟩] : List (Option Addr)).getD i none) i) ((fun i => ([(List.replicate 32 0#8).length, 32, 32, 32] : List Nat).getD i 0) i) ((fun i => ([cin_31, 32, 32, 32] : List Nat).getD i 0) i))]) FRef17.slu102 FRef17.sz40 FRef17.zv40 (by decide) (by decide) rfl rfl rfl (EffO.keep PIn.nil) fun b1045 w1045 hb1045 h1045 => ?_
      simp only [rngs, List.cons_append, List.nil_append] at h1045
      have hk1045_b1043 := (h1045.below.block _ (hk_lt hk1043)).trans hk1043
      replace h1045 := St.unro (N := [_]) h1043 h1045 (by intro r hr; simp only [List.mem_cons, List.not_mem_nil, or_false] at hr; rcases hr with rfl <;> rfl)
      simp only [zca, zna] at h1045
      refine Plan.forked ?_ ?_
      ·
       refine PlanT.toLine ?_
       have h1054 := St.asro h1045
       simp only [List.map_cons, Rg.ro_mk] at h1054
       refine Plan.call (vs := [.slice (some ⟨b1045, 0, none⟩) 4 4]) rfl FRef17.call53 rfl (letheref03_Joined_ok (by exact (Bss.of 0 rfl rfl (fun i hi => match i, hi with | 0, _ => ⟨_, (hin_31.bx 3 rfl)⟩ | 1, _ => ⟨_, (Bx.arr0 (n := 32) (cc := 32) 8 rfl (by omega) (by omega))⟩ | 2, _ => ⟨_, (Bx.arr0 (n := 32) (cc := 32) 7 rfl (by omega) (by omega))⟩ | 3, _ => ⟨_, (Bx.arr0 (n := 32) (cc := 32) 6 rfl (by omega) (by omega))⟩ | k + 4, hk => absurd hk (by omega)))) hr688 h1054) ?_
       rintro _ w1055 ⟨ay0_1049, py0_1050, ny0_1051, cy0_1052, Fy0_1053, rfl, h1055, hf1055_0⟩
       have hk1055_b1043 := (h1055.below.block _ (hk_lt hk1045_b1043)).trans hk1045_b1043
       replace h1055 := St.unro (N := [_]) h1045 h1055 (by intro r hr; simp only [List.mem_cons, List.not_mem_nil, or_false] at hr; rcases hr with rfl <;> rfl)
       simp only [zca, zna] at h1055
       obtain rfl := hf1055_0.hl
       refine ⟨_, rfl, .inl ⟨PIn.keep PIn.nil h1055, ?_⟩⟩
       refine Plan.constConv PIn.nil h1055 hb1043 hk1055_b1043 FRef17.slu40 FRef17.u5 rfl rfl fun w1056 h1056 => ?_
       have h1057 := St.pickT (C := [_, _, _, _, _, _, _, _, _, _]) h1056 [3, 0, 2, 5, 6] (by decide)
       simp only [pick, zfc, zfn, zgz, zgs, zca, zna] at h1057
       exact hT988 _ _ ⟨some ⟨b1008, 0, none⟩, some b1008, 32, (fun _ => 0#8), ay0_1049, py0_1050, cy0_1052, Fy0_1053, b1043, (zer (zer (zer (zer (zer zen))))), h1057, ho1008, hf1055_0⟩
      ·
       refine PlanT.toLine ?_
       refine Plan.constConv PIn.nil h1045 hb1043 hk1045_b1043 FRef17.slu40 FRef17.u5 rfl rfl fun w1058 h1058 => ?_
       refine Plan.call (vs := [.slice (some ⟨b1045, 0, none⟩) 4 4]) rfl FRef17.call53 rfl (letheref03_Joined_ok (by exact (Bss.of 0 rfl rfl (fun i hi => match i, hi with | 0, _ => ⟨_, (hin_31.bx 3 rfl)⟩ | 1, _ => ⟨_, (Bx.arr0 (n := 32) (cc := 32) 8 rfl (by omega) (by omega))⟩ | 2, _ => ⟨_, (Bx.arr0 (n := 32) (cc := 32) 7 rfl (by omega) (by omega))⟩ | 3, _ => ⟨_, (Bx.arr0 (n := 32) (cc := 32) 6 rfl (by omega) (by omega))⟩ | k + 4, hk => absurd hk (by omega)))) hr688 h1058) ?_
       rintro _ w1066 ⟨ay0_1061, py0_1062, ny0_1063, cy0_1064, Fy0_1065, rfl, h1066, hf1066_0⟩
       obtain rfl := hf1066_0.hl
       refine ⟨_, rfl, .inl ⟨PIn.keep PIn.nil h1066, ?_⟩⟩
       have h1067 := St.pickT (C := [_, _, _, _, _, _, _, _, _, _]) h1066 [3, 0, 2, 5, 6] (by decide)
       simp only [pick, zfc, zfn, zgz, zgs, zca, zna] at h1067
       exact hT988 _ _ ⟨some ⟨b1008, 0, none⟩, some b1008, 32, (fun _ => 0#8), ay0_1061, py0_1062, cy0_1064, Fy0_1065, b1043, (zer (zer (zer (zer (zer zen))))), h1067, ho1008, hf1066_0⟩
     ·
      refine PlanT.toLine ?_
      refine Plan.constConv PIn.nil h1043 hb1043 hk1043 FRef17.slu40 FRef17.u5 rfl rfl fun w1068 h1068 => ?_
      refine Plan.buildSlice h1068 (ps := [(4, fun i => .slice ((fun i => ([ain_31, some ⟨b5, 0, none⟩, some ⟨b6, 0, none⟩, some ⟨b7, 0, none⟩] : List (Option Addr)).getD i none) i) ((fun i => ([(List.replicate 32 0#8).length, 32, 32, 32] : List Nat).getD i 0) i) ((fun i => ([cin_31, 32, 32, 32] : List Nat).getD i 0) i))]) FRef17.slu102 FRef17.sz40 FRef17.zv40 (by decide) (by decide) rfl rfl rfl (EffO.keep PIn.nil) fun b1070 w1070 hb1070 h1070 => ?_
      simp only [rngs, List.cons_append, List.nil_append] at h1070
      refine Plan.call (vs := [.slice (some ⟨b1070, 0, none⟩) 4 4]) rfl FRef17.call53 rfl (letheref03_Joined_ok (by exact (Bss.of 0 rfl rfl (fun i hi => match i, hi with | 0, _ => ⟨_, (hin_31.bx 3 rfl)⟩ | 1, _ => ⟨_, (Bx.arr0 (n := 32) (cc := 32) 8 rfl (by omega) (by omega))⟩ | 2, _ => ⟨_, (Bx.arr0 (n := 32) (cc := 32) 7 rfl (by omega) (by omega))⟩ | 3, _ => ⟨_, (Bx.arr0 (n := 32) (cc := 32) 6 rfl (by omega) (by omega))⟩ | k + 4, hk => absurd hk (by omega)))) hr688 h1070) ?_
      rintro _ w1078 ⟨ay0_1073, py0_1074, ny0_1075, cy0_1076, Fy0_1077, rfl, h1078, hf1078_0⟩
      obtain rfl := hf1078_0.hl
      refine ⟨_, rfl, .inl ⟨PIn.keep PIn.nil h1078, ?_⟩⟩
      have h1079 := St.pickT (C := [_, _, _, _, _, _, _, _, _, _]) h1078 [3, 0, 2, 5, 6] (by decide)
      simp only [pick, zfc, zfn, zgz, zgs, zca, zna] at h1079
      exact hT988 _ _ ⟨some ⟨b1008, 0, none⟩, some b1008, 32, (fun _ => 0#8), ay0_1073, py0_1074, cy0_1076, Fy0_1077, b1043, (zer (zer (zer (zer (zer zen))))), h1079, ho1008, hf1078_0⟩
   ·
    subst he_t985
    subst he_t986
    refine PlanT.toFork ?_
    refine Plan.forked ?_ ?_
    ·
     refine PlanT.toFork ?_
     refine Plan.buildSlice h684 (ps := [(4, fun i => .slice ((fun i => ([ain_31, some ⟨b5, 0, none⟩, some ⟨b6, 0, none⟩, some ⟨b7, 0, none⟩] : List (Option Addr)).getD i none) i) ((fun i => ([(List.replicate 32 0#8).length, 32, 32, 32] : List Nat).getD i 0) i) ((fun i => ([cin_31, 32, 32, 32] : List Nat).getD i 0) i))]) FRef17.slu102 FRef17.sz40 FRef17.zv40 (by decide) (by decide) rfl rfl rfl (EffO.keep PIn.nil) fun b1081 w1081 hb1081 h1081 => ?_
     simp only [rngs, List.cons_append, List.nil_append] at h1081
     refine Plan.forked ?_ ?_
     ·
      refine PlanT.toFork ?_
      refine Plan.makeO (len := 32) (c := 32) h1081 FRef17.el40 rfl rfl rfl (by omega) (by omega) (fun _ => EffO.keep PIn.nil) fun b1082 w1082 hb1082 ho1082 h1082 => ?_
      refine Plan.forked ?_ ?_
      ·
       refine PlanT.toLine ?_
       refine Plan.call (vs := [.slice (some ⟨b1081, 0, none⟩) 4 4]) rfl FRef17.call53 rfl (letheref03_Joined_ok (by exact (Bss.of 1 rfl rfl (fun i hi => match i, hi with | 0, _ => ⟨_, (hin_31.bx 2 rfl)⟩ | 1, _ => ⟨_, (Bx.arr0 (n := 32) (cc := 32) 7 rfl (by omega) (by omega))⟩ | 2, _ => ⟨_, (Bx.arr0 (n := 32) (cc := 32) 6 rfl (by omega) (by omega))⟩ | 3, _ => ⟨_, (Bx.arr0 (n := 32) (cc := 32) 5 rfl (by omega) (by omega))⟩ | k + 4, hk => absurd hk (by omega)))) hr688 h1082) ?_
       rintro _ w1090 ⟨ay0_1085, py0_1086, ny0_1087, cy0_1088, Fy0_1089, rfl, h1090, hf1090_0⟩
       obtain rfl := hf1090_0.hl
       refine ⟨_, rfl, .inl ⟨PIn.keep PIn.nil h1090, ?_⟩⟩
       refine Plan.constBytesO PIn.nil h1090 (f := fun q => VU .u8 (lit ([108#8, 101#8, 116#8, 104#8, 101#8, 32#8, 102#8, 105#8, 114#8, 115#8, 116#8] : List Byte) q)) FRef17.slu40 FRef17.u5 FRef17.sz5 FRef17.zv5 (by decide) (by decide) rfl (fun _ => rfl) (fun _ => rfl) rfl (by kernel_rfl) fun b1091 w1091 hb1091 h1091 => ?_
       have h1092 := St.pickT (C := [_, _, _, _, _, _, _, _, _, _]) h1091 [2, 1, 0, 5, 6] (by decide)
       simp only [pick, zfc, zfn, zgz, zgs, zca, zna] at h1092
       exact hT988 _ _ ⟨some ⟨b1082, 0, none⟩, some b1082, 32, (fun _ => 0#8), ay0_1085, py0_1086, cy0_1088, Fy0_1089, b1091, (zer (zer (zer (zer (zer zen))))), h1092, ho1082, hf1090_0⟩
      ·
       refine PlanT.toFork ?_
       refine Plan.constBuild PIn.nil h1082 (f := fun q => VU .u8 (lit ([108#8, 101#8, 116#8, 104#8, 101#8, 32#8, 102#8, 105#8, 114#8, 115#8, 116#8] : List Byte) q)) FRef17.slu40 FRef17.sz5 FRef17.zv5 (by decide) (by decide) rfl rfl (by kernel_rfl) fun b1093 w1093 hb1093 hk1093 h1093 => ?_
       refine Plan.forked ?_ ?_
       ·
        refine PlanT.toLine ?_
        have h1101 := St.asro h1093
        simp only [List.map_cons, Rg.ro_mk] at h1101
        refine Plan.call (vs := [.slice (some ⟨b1081, 0, none⟩) 4 4]) rfl FRef17.call53 rfl (letheref03_Joined_ok (by exact (Bss.of 2 rfl rfl (fun i hi => match i, hi with | 0, _ => ⟨_, (hin_31.bx 3 rfl)⟩ | 1, _ => ⟨_, (Bx.arr0 (n := 32) (cc := 32) 8 rfl (by omega) (by omega))⟩ | 2, _ => ⟨_, (Bx.arr0 (n := 32) (cc := 32) 7 rfl (by omega) (by omega))⟩ | 3, _ => ⟨_, (Bx.arr0 (n := 32) (cc := 32) 6 rfl (by omega) (by omega))⟩ | k + 4, hk => absurd hk (by omega)))) hr688 h1101) ?_
        rintro _ w1102 ⟨ay0_1096, py0_1097, ny0_1098, cy0_1099, Fy0_1100, rfl, h1102, hf1102_0⟩
        have hk1102_b1093 := (h1102.below.block _ (hk_lt hk1093)).trans hk1093
        replace h1102 := St.unro (N := [_]) h1093 h1102 (by intro r hr; simp only [List.mem_cons, List.not_mem_nil, or_false] at hr; rcases hr with rfl <;> rfl)
        simp only [zca, zna] at h1102
        obtain rfl := hf1102_0.hl
        refine ⟨_, rfl, .inl ⟨PIn.keep PIn.nil h1102, ?_⟩⟩
        refine Plan.constConv PIn.nil h1102 hb1093 hk1102_b1093 FRef17.slu40 FRef17.u5 rfl rfl fun w1103 h1103 => ?_
        have h1104 := St.pickT (C := [_, _, _, _, _, _, _, _, _, _]) h1103 [2, 0, 1, 5, 6] (by decide)
        simp only [pick, zfc, zfn, zgz, zgs, zca, zna] at h1104
        exact hT988 _ _ ⟨some ⟨b1082, 0, none⟩, some b1082, 32, (fun _ => 0#8), ay0_1096, py0_1097, cy0_1099, Fy0_1100, b1093, (zer (zer (zer (zer (zer zen))))), h1104, ho1082, hf1102_0⟩
       ·
        refine PlanT.toLine ?_
        refine Plan.constConv PIn.nil h1093 hb1093 hk1093 FRef17.slu40 FRef17.u5 rfl rfl fun w1105 h1105 => ?_
        refine Plan.call (vs := [.slice (some ⟨b1081, 0, none⟩) 4 4]) rfl FRef17.call53 rfl (letheref03_Joined_ok (by exact (Bss.of 2 rfl rfl (fun i hi => match i, hi with | 0, _ => ⟨_, (hin_31.bx 3 rfl)⟩ | 1, _ => ⟨_, (Bx.arr0 (n := 32) (cc := 32) 8 rfl (by omega) (by omega))⟩ | 2, _ => ⟨_, (Bx.arr0 (n := 32) (cc := 32) 7 rfl (by omega) (by omega))⟩ | 3, _ => ⟨_, (Bx.arr0 (n := 32) (cc := 32) 6 rfl (by omega) (by omega))⟩ | k + 4, hk => absurd hk (by omega)))) hr688 h1105) ?_
        rintro _ w1113 ⟨ay0_1108, py0_1109, ny0_1110, cy0_1111, Fy0_1112, rfl, h1113, hf1113_0⟩
        obtain rfl := hf1113_0.hl
        refine ⟨_, rfl, .inl ⟨PIn.keep PIn.nil h1113, ?_⟩⟩
        have h1114 := St.pickT (C := [_, _, _, _, _, _, _, _, _, _]) h1113 [2, 0, 1, 5, 6] (by decide)
        simp only [pick, zfc, zfn, zgz, zgs, zca, zna] at h1114
        exact hT988 _ _ ⟨some ⟨b1082, 0, none⟩, some b1082, 32, (fun _ => 0#8), ay0_1108, py0_1109, cy0_1111, Fy0_1112, b1093, (zer (zer (zer (zer (zer zen))))), h1114, ho1082, hf1113_0⟩
     ·
      refine PlanT.toFork ?_
      refine Plan.forked ?_ ?_
      ·
       refine PlanT.toFork ?_
       refine Plan.call (vs := [.slice (some ⟨b1081, 0, none⟩) 4 4]) rfl FRef17.call53 rfl (letheref03_Joined_ok (by exact (Bss.of 0 rfl rfl (fun i hi => match i, hi with | 0, _ => ⟨_, (hin_31.bx 1 rfl)⟩ | 1, _ => ⟨_, (Bx.arr0 (n := 32) (cc := 32) 6 rfl (by omega) (by omega))⟩ | 2, _ => ⟨_, (Bx.arr0 (n := 32) (cc := 32) 5 rfl (by omega) (by omega))⟩ | 3, _ => ⟨_, (Bx.arr0 (n := 32) (cc := 32) 4 rfl (by omega) (by omega))⟩ | k + 4, hk => absurd hk (by omega)))) hr688 h1081) ?_
       rintro _ w1122 ⟨ay0_1117, py0_1118, ny0_1119, cy0_1120, Fy0_1121, rfl, h1122, hf1122_0⟩
       obtain rfl := hf1122_0.hl
       refine ⟨_, rfl, .inl ⟨PIn.keep PIn.nil h1122, ?_⟩⟩
       refine Plan.forked ?_ ?_
       ·
        refine PlanT.toLine ?_
        refine Plan.makeO (len := 32) (c := 32) h1122 FRef17.el40 rfl rfl rfl (by omega) (by omega) (fun _ => EffO.keep PIn.nil) fun b1123 w1123 hb1123 ho1123 h1123 => ?_
        refine Plan.constBytesO PIn.nil h1123 (f := fun q => VU .u8 (lit ([108#8, 101#8, 116#8, 104#8, 101#8, 32#8, 102#8, 105#8, 114#8, 115#8, 116#8] : List Byte) q)) FRef17.slu40 FRef17.u5 FRef17.sz5 FRef17.zv5 (by decide) (by decide) rfl (fun _ => rfl) (fun _ => rfl) rfl (by kernel_rfl) fun b1124 w1124 hb1124 h1124 => ?_
        have h1125 := St.pickT (C := [_, _, _, _, _, _, _, _, _, _]) h1124 [1, 2, 0, 5, 6] (by decide)
        simp only [pick, zfc, zfn, zgz, zgs, zca, zna] at h1125
        exact hT988 _ _ ⟨some ⟨b1123, 0, none⟩, some b1123, 32, (fun _ => 0#8), ay0_1117, py0_1118, cy0_1120, Fy0_1121, b1124, (zer (zer (zer (zer (zer zen))))), h1125, ho1123, hf1122_0⟩
       ·
        refine PlanT.toFork ?_
        refine Plan.constBuild PIn.nil h1122 (f := fun q => VU .u8 (lit ([108#8, 101#8, 116#8, 104#8, 101#8, 32#8, 102#8, 105#8, 114#8, 115#8, 116#8] : List Byte) q)) FRef17.slu40 FRef17.sz5 FRef17.zv5 (by decide) (by decide) rfl rfl (by kernel_rfl) fun b1126 w1126 hb1126 hk1126 h1126 => ?_
        refine Plan.forked ?_ ?_
        ·
         refine PlanT.toLine ?_
         refine Plan.makeK (m := 32) (c := 32) PIn.nil h1126 FRef17.el40 rfl rfl rfl (by omega) (by omega) fun b1127 w1127 hb1127 hw1127 ho1127 h1127 => ?_
         have hk1127_b1126 := hw1127 _ _ hk1126
         refine Plan.constConv PIn.nil h1127 hb1126 hk1127_b1126 FRef17.slu40 FRef17.u5 rfl rfl fun w1128 h1128 => ?_
         have h1129 := St.pickT (C := [_, _, _, _, _, _, _, _, _, _]) h1128 [0, 2, 1, 5, 6] (by decide)
         simp only [pick, zfc, zfn, zgz, zgs, zca, zna] at h1129
         exact hT988 _ _ ⟨some ⟨b1127, 0, none⟩, some b1127, 32, (fun _ => 0#8), ay0_1117, py0_1118, cy0_1120, Fy0_1121, b1126, (zer (zer (zer (zer (zer zen))))), h1129, ho1127, hf1122_0⟩
        ·
         refine PlanT.toLine ?_
         refine Plan.constConv PIn.nil h1126 hb1126 hk1126 FRef17.slu40 FRef17.u5 rfl rfl fun w1130 h1130 => ?_
         refine Plan.makeO (len := 32) (c := 32) h1130 FRef17.el40 rfl rfl rfl (by omega) (by omega) (fun _ => EffO.keep PIn.nil) fun b1131 w1131 hb1131 ho1131 h1131 => ?_
         have h1132 := St.pickT (C := [_, _, _, _, _, _, _, _, _, _]) h1131 [0, 2, 1, 5, 6] (by decide)
         simp only [pick, zfc, zfn, zgz, zgs, zca, zna] at h1132
         exact hT988 _ _ ⟨some ⟨b1131, 0, none⟩, some b1131, 32, (fun _ => 0#8), ay0_1117, py0_1118, cy0_1120, Fy0_1121, b1126, (zer (zer (zer (zer (zer zen))))), h1132, ho1131, hf1122_0⟩
      ·
       refine PlanT.toFork ?_
       refine Plan.constBuild PIn.nil h1081 (f := fun q => VU .u8 (lit ([108#8, 101#8, 116#8, 104#8, 101#8, 32#8, 102#8, 105#8, 114#8, 115#8, 116#8] : List Byte) q)) FRef17.slu40 FRef17.sz5 FRef17.zv5 (by decide) (by decide) rfl rfl (by kernel_rfl) fun b1133 w1133 hb1133 hk1133 h1133 => ?_
       refine Plan.forked ?_ ?_
       ·
        refine PlanT.toFork ?_
        refine Plan.makeK (m := 32) (c := 32) PIn.nil h1133 FRef17.el40 rfl rfl rfl (by omega) (by omega) fun b1134 w1134 hb1134 hw1134 ho1134 h1134 => ?_
        have hk1134_b1133 := hw1134 _ _ hk1133
        refine Plan.forked ?_ ?_
        ·
         refine PlanT.toLine ?_
         have h1142 := St.asro h1134
         simp only [List.map_cons, Rg.ro_mk] at h1142
         refine Plan.call (vs := [.slice (some ⟨b1081, 0, none⟩) 4 4]) rfl FRef17.call53 rfl (letheref03_Joined_ok (by exact (Bss.of 2 rfl rfl (fun i hi => match i, hi with | 0, _ => ⟨_, (hin_31.bx 3 rfl)⟩ | 1, _ => ⟨_, (Bx.arr0 (n := 32) (cc := 32) 8 rfl (by omega) (by omega))⟩ | 2, _ => ⟨_, (Bx.arr0 (n := 32) (cc := 32) 7 rfl (by omega) (by omega))⟩ | 3, _ => ⟨_, (Bx.arr0 (n := 32) (cc := 32) 6 rfl (by omega) (by omega))⟩ | k + 4, hk => absurd hk (by omega)))) hr688 h1142) ?_
         rintro _ w1143 ⟨ay0_1137, py0_1138, ny0_1139, cy0_1140, Fy0_1141, rfl, h1143, hf1143_0⟩
         have hk1143_b1133 := (h1143.below.block _ (hk_lt hk1134_b1133)).trans hk1134_b1133
         replace h1143 := St.unro (N := [_]) h1134 h1143 (by intro r hr; simp only [List.mem_cons, List.not_mem_nil, or_false] at hr; rcases hr with rfl <;> rfl)
         simp only [zca, zna] at h1143
         obtain rfl := hf1143_0.hl
         refine ⟨_, rfl, .inl ⟨PIn.keep PIn.nil h1143, ?_⟩⟩
         refine Plan.constConv PIn.nil h1143 hb1133 hk1143_b1133 FRef17.slu40 FRef17.u5 rfl rfl fun w1144 h1144 => ?_
         have h1145 := St.pickT (C := [_, _, _, _, _, _, _, _, _, _]) h1144 [1, 0, 2, 5, 6] (by decide)
         simp only [pick, zfc, zfn, zgz, zgs, zca, zna] at h1145
         exact hT988 _ _ ⟨some ⟨b1134, 0, none⟩, some b1134, 32, (fun _ => 0#8), ay0_1137, py0_1138, cy0_1140, Fy0_1141, b1133, (zer (zer (zer (zer (zer zen))))), h1145, ho1134, hf1143_0⟩
        ·
         refine PlanT.toLine ?_
         refine Plan.constConv PIn.nil h1134 hb1133 hk1134_b1133 FRef17.slu40 FRef17.u5 rfl rfl fun w1146 h1146 => ?_
         refine Plan.call (vs := [.slice (some ⟨b1081, 0, none⟩) 4 4]) rfl FRef17.call53 rfl (letheref03_Joined_ok (by exact (Bss.of 2 rfl rfl (fun i hi => match i, hi with | 0, _ => ⟨_, (hin_31.bx 3 rfl)⟩ | 1, _ => ⟨_, (Bx.arr0 (n := 32) (cc := 32) 8 rfl (by omega) (by omega))⟩ | 2, _ => ⟨_, (Bx.arr0 (n := 32) (cc := 32) 7 rfl (by omega) (by omega))⟩ | 3, _ => ⟨_, (Bx.arr0 (n := 32) (cc := 32) 6 rfl (by omega) (by omega))⟩ | k + 4, hk => absurd hk (by omega)))) hr688 h1146) ?_
         rintro _ w1154 ⟨ay0_1149, py0_1150, ny0_1151, cy0_1152, Fy0_1153, rfl, h1154, hf1154_0⟩
         obtain rfl := hf1154_0.hl
         refine ⟨_, rfl, .inl ⟨PIn.keep PIn.nil h1154, ?_⟩⟩
         have h1155 := St.pickT (C := [_, _, _, _, _, _, _, _, _, _]) h1154 [1, 0, 2, 5, 6] (by decide)
         simp only [pick, zfc, zfn, zgz, zgs, zca, zna] at h1155
         exact hT988 _ _ ⟨some ⟨b1134, 0, none⟩, some b1134, 32, (fun _ => 0#8), ay0_1149, py0_1150, cy0_1152, Fy0_1153, b1133, (zer (zer (zer (zer (zer zen))))), h1155, ho1134, hf1154_0⟩
       ·
        refine PlanT.toFork ?_
        refine Plan.forked ?_ ?_
        ·
         refine PlanT.toFork ?_
         have h1163 := St.asro h1133
         simp only [List.map_cons, Rg.ro_mk] at h1163
         refine Plan.call (vs := [.slice (some ⟨b1081, 0, none⟩) 4 4]) rfl FRef17.call53 rfl (letheref03_Joined_ok (by exact (Bss.of 1 rfl rfl (fun i hi => match i, hi with | 0, _ => ⟨_, (hin_31.bx 2 rfl)⟩ | 1, _ => ⟨_, (Bx.arr0 (n := 32) (cc := 32) 7 rfl (by omega) (by omega))⟩ | 2, _ => ⟨_, (Bx.arr0 (n := 32) (cc := 32) 6 rfl (by omega) (by omega))⟩ | 3, _ => ⟨_, (Bx.arr0 (n := 32) (cc := 32) 5 rfl (by omega) (by omega))⟩ | k + 4, hk => absurd hk (by omega)))) hr688 h1163) ?_
         rintro _ w1164 ⟨ay0_1158, py0_1159, ny0_1160, cy0_1161, Fy0_1162, rfl, h1164, hf1164_0⟩
         have hk1164_b1133 := (h1164.below.block _ (hk_lt hk1133)).trans hk1133
         replace h1164 := St.unro (N := [_]) h1133 h1164 (by intro r hr; simp only [List.mem_cons, List.not_mem_nil, or_false] at hr; rcases hr with rfl <;> rfl)
         simp only [zca, zna] at h1164
         obtain rfl := hf1164_0.hl
         refine ⟨_, rfl, .inl ⟨PIn.keep PIn.nil h1164, ?_⟩⟩
         refine Plan.forked ?_ ?_
         ·
          refine PlanT.toLine ?_
          refine Plan.makeK (m := 32) (c := 32) PIn.nil h1164 FRef17.el40 rfl rfl rfl (by omega) (by omega) fun b1165 w1165 hb1165 hw1165 ho1165 h1165 => ?_
          have hk1165_b1133 := hw1165 _ _ hk1164_b1133
          refine Plan.constConv PIn.nil h1165 hb1133 hk1165_b1133 FRef17.slu40 FRef17.u5 rfl rfl fun w1166 h1166 => ?_
          have h1167 := St.pickT (C := [_, _, _, _, _, _, _, _, _, _]) h1166 [0, 1, 2, 5, 6] (by decide)
          simp only [pick, zfc, zfn, zgz, zgs, zca, zna] at h1167
          exact hT988 _ _ ⟨some ⟨b1165, 0, none⟩, some b1165, 32, (fun _ => 0#8), ay0_1158, py0_1159, cy0_1161, Fy0_1162, b1133, (zer (zer (zer (zer (zer zen))))), h1167, ho1165, hf1164_0⟩
         ·
          refine PlanT.toLine ?_
          refine Plan.constConv PIn.nil h1164 hb1133 hk1164_b1133 FRef17.slu40 FRef17.u5 rfl rfl fun w1168 h1168 => ?_
          refine Plan.makeO (len := 32) (c := 32) h1168 FRef17.el40 rfl rfl rfl (by omega) (by omega) (fun _ => EffO.keep PIn.nil) fun b1169 w1169 hb1169 ho1169 h1169 => ?_
          have h1170 := St.pickT (C := [_, _, _, _, _, _, _, _, _, _]) h1169 [0, 1, 2, 5, 6] (by decide)
          simp only [pick, zfc, zfn, zgz, zgs, zca, zna] at h1170
          exact hT988 _ _ ⟨some ⟨b1169, 0, none⟩, some b1169, 32, (fun _ => 0#8), ay0_1158, py0_1159, cy0_1161, Fy0_1162, b1133, (zer (zer (zer (zer (zer zen))))), h1170, ho1169, hf1164_0⟩
        ·
         refine PlanT.toFork ?_
         refine Plan.constConv PIn.nil h1133 hb1133 hk1133 FRef17.slu40 FRef17.u5 rfl rfl fun w1171 h1171 => ?_
         refine Plan.forked ?_ ?_
         ·
          refine PlanT.toLine ?_
          refine Plan.makeO (len := 32) (c := 32) h1171 FRef17.el40 rfl rfl rfl (by omega) (by omega) (fun _ => EffO.keep PIn.nil) fun b1172 w1172 hb1172 ho1172 h1172 => ?_
          refine Plan.call (vs := [.slice (some ⟨b1081, 0, none⟩) 4 4]) rfl FRef17.call53 rfl (letheref03_Joined_ok (by exact (Bss.of 2 rfl rfl (fun i hi => match i, hi with | 0, _ => ⟨_, (hin_31.bx 3 rfl)⟩ | 1, _ => ⟨_, (Bx.arr0 (n := 32) (cc := 32) 8 rfl (by omega) (by omega))⟩ | 2, _ => ⟨_, (Bx.arr0 (n := 32) (cc := 32) 7 rfl (by omega) (by omega))⟩ | 3, _ => ⟨_, (Bx.arr0 (n := 32) (cc := 32) 6 rfl (by omega) (by omega))⟩ | k + 4, hk => absurd hk (by omega)))) hr688 h1172) ?_
          rintro _ w1180 ⟨ay0_1175, py0_1176, ny0_1177, cy0_1178, Fy0_1179, rfl, h1180, hf1180_0⟩
          obtain rfl := hf1180_0.hl
          refine ⟨_, rfl, .inl ⟨PIn.keep PIn.nil h1180, ?_⟩⟩
          have h1181 := St.pickT (C := [_, _, _, _, _, _, _, _, _, _]) h1180 [1, 0, 2, 5, 6] (by decide)
          simp only [pick, zfc, zfn, zgz, zgs, zca, zna] at h1181
          exact hT988 _ _ ⟨some ⟨b1172, 0, none⟩, some b1172, 32, (fun _ => 0#8), ay0_1175, py0_1176, cy0_1178, Fy0_1179, b1133, (zer (zer (zer (zer (zer zen))))), h1181, ho1172, hf1180_0⟩
         ·
          refine PlanT.toLine ?_
          refine Plan.call (vs := [.slice (some ⟨b1081, 0, none⟩) 4 4]) rfl FRef17.call53 rfl (letheref03_Joined_ok (by exact (Bss.of 1 rfl rfl (fun i hi => match i, hi with | 0, _ => ⟨_, (hin_31.bx 2 rfl)⟩ | 1, _ => ⟨_, (Bx.arr0 (n := 32) (cc := 32) 7 rfl (by omega) (by omega))⟩ | 2, _ => ⟨_, (Bx.arr0 (n := 32) (cc := 32) 6 rfl (by omega) (by omega))⟩ | 3, _ => ⟨_, (Bx.arr0 (n := 32) (cc := 32) 5 rfl (by omega) (by omega))⟩ | k + 4, hk => absurd hk (by omega)))) hr688 h1171) ?_
          rintro _ w1189 ⟨ay0_1184, py0_1185, ny0_1186, cy0_1187, Fy0_1188, rfl, h1189, hf1189_0⟩
          obtain rfl := hf1189_0.hl
          refine ⟨_, rfl, .inl ⟨PIn.keep PIn.nil h1189, ?_⟩⟩
          refine Plan.makeO (len := 32) (c := 32) h1189 FRef17.el40 rfl rfl rfl (by omega) (by omega) (fun _ => EffO.keep PIn.nil) fun b1190 w1190 hb1190 ho1190 h1190 => ?_
          have h1191 := St.pickT (C := [_, _, _, _, _, _, _, _, _, _]) h1190 [0, 1, 2, 5, 6] (by decide)
          simp only [pick, zfc, zfn, zgz, zgs, zca, zna] at h1191
          exact hT988 _ _ ⟨some ⟨b1190, 0, none⟩, some b1190, 32, (fun _ => 0#8), ay0_1184, py0_1185, cy0_1187, Fy0_1188, b1133, (zer (zer (zer (zer (zer zen))))), h1191, ho1190, hf1189_0⟩
    ·
     refine PlanT.toFork ?_
     refine Plan.constBuild PIn.nil h684 (f := fun q => VU .u8 (lit ([108#8, 101#8, 116#8, 104#8, 101#8, 32#8, 102#8, 105#8, 114#8, 115#8, 116#8] : List Byte) q)) FRef17.slu40 FRef17.sz5 FRef17.zv5 (by decide) (by decide) rfl rfl (by kernel_rfl) fun b1192 w1192 hb1192 hk1192 h1192 => ?_
     refine Plan.forked ?_ ?_
     ·
      refine PlanT.toFork ?_
      refine Plan.makeK (m := 32) (c := 32) PIn.nil h1192 FRef17.el40 rfl rfl rfl (by omega) (by omega) fun b1193 w1193 hb1193 hw1193 ho1193 h1193 => ?_
      have hk1193_b1192 := hw1193 _ _ hk1192
      refine Plan.forked ?_ ?_
      ·
       refine PlanT.toFork ?_
       have h1196 := St.asro h1193
       simp only [List.map_cons, Rg.ro_mk] at h1196
       refine Plan.buildSlice h1196 (ps := [(4, fun i => .slice ((fun i => ([ain_31, some ⟨b5, 0, none⟩, some ⟨b6, 0, none⟩, some ⟨b7, 0, none⟩] : List (Option Addr)).getD i none) i) ((fun i => ([(List.replicate 32 0#8).length, 32, 32, 32] : List Nat).getD i 0) i) ((fun i => ([cin_31, 32, 32, 32] : List Nat).getD i 0) i))]) FRef17.slu102 FRef17.sz40 FRef17.zv40 (by decide) (by decide) rfl rfl rfl (EffO.keep PIn.nil) fun b1195 w1195 hb1195 h1195 => ?_
       simp only [rngs, List.cons_append, List.nil_append] at h1195
       have hk1195_b1192 := (h1195.below.block _ (hk_lt hk1193_b1192)).trans hk1193_b1192
       replace h1195 := St.unro (N := [_]) h1193 h1195 (by intro r hr; simp only [List.mem_cons, List.not_mem_nil, or_false] at hr; rcases hr with rfl <;> rfl)
       simp only [zca, zna] at h1195
       refine Plan.forked ?_ ?_
       ·
        refine PlanT.toLine ?_
        have h1204 := St.asro h1195
        simp only [List.map_cons, Rg.ro_mk] at h1204
        refine Plan.call (vs := [.slice (some ⟨b1195, 0, none⟩) 4 4]) rfl FRef17.call53 rfl (letheref03_Joined_ok (by exact (Bss.of 0 rfl rfl (fun i hi => match i, hi with | 0, _ => ⟨_, (hin_31.bx 3 rfl)⟩ | 1, _ => ⟨_, (Bx.arr0 (n := 32) (cc := 32) 8 rfl (by omega) (by omega))⟩ | 2, _ => ⟨_, (Bx.arr0 (n := 32) (cc := 32) 7 rfl (by omega) (by omega))⟩ | 3, _ => ⟨_, (Bx.arr0 (n := 32) (cc := 32) 6 rfl (by omega) (by omega))⟩ | k + 4, hk => absurd hk (by omega)))) hr688 h1204) ?_
        rintro _ w1205 ⟨ay0_1199, py0_1200, ny0_1201, cy0_1202, Fy0_1203, rfl, h1205, hf1205_0⟩
        have hk1205_b1192 := (h1205.below.block _ (hk_lt hk1195_b1192)).trans hk1195_b1192
        replace h1205 := St.unro (N := [_]) h1195 h1205 (by intro r hr; simp only [List.mem_cons, List.not_mem_nil, or_false] at hr; rcases hr with rfl <;> rfl)
        simp only [zca, zna] at h1205
        obtain rfl := hf1205_0.hl
        refine ⟨_, rfl, .inl ⟨PIn.keep PIn.nil h1205, ?_⟩⟩
        refine Plan.constConv PIn.nil h1205 hb1192 hk1205_b1192 FRef17.slu40 FRef17.u5 rfl rfl fun w1206 h1206 => ?_
        have h1207 := St.pickT (C := [_, _, _, _, _, _, _, _, _, _]) h1206 [2, 0, 3, 5, 6] (by decide)
        simp only [pick, zfc, zfn, zgz, zgs, zca, zna] at h1207
        exact hT988 _ _ ⟨some ⟨b1193, 0, none⟩, some b1193, 32, (fun _ => 0#8), ay0_1199, py0_1200, cy0_1202, Fy0_1203, b1192, (zer (zer (zer (zer (zer zen))))), h1207, ho1193, hf1205_0⟩
       ·
        refine PlanT.toLine ?_
        refine Plan.constConv PIn.nil h1195 hb1192 hk1195_b1192 FRef17.slu40 FRef17.u5 rfl rfl fun w1208 h1208 => ?_
        refine Plan.call (vs := [.slice (some ⟨b1195, 0, none⟩) 4 4]) rfl FRef17.call53 rfl (letheref03_Joined_ok (by exact (Bss.of 0 rfl rfl (fun i hi => match i, hi with | 0, _ => ⟨_, (hin_31.bx 3 rfl)⟩ | 1, _ => ⟨_, (Bx.arr0 (n := 32) (cc := 32) 8 rfl (by omega) (by omega))⟩ | 2, _ => ⟨_, (Bx.arr0 (n := 32) (cc := 32) 7 rfl (by omega) (by omega))⟩ | 3, _ => ⟨_, (Bx.arr0 (n := 32) (cc := 32) 6 rfl (by omega) (by omega))⟩ | k + 4, hk => absurd hk (by omega)))) hr688 h1208) ?_
        rintro _ w1216 ⟨ay0_1211, py0_1212, ny0_1213, cy0_1214, Fy0_1215, rfl, h1216, hf1216_0⟩
        obtain rfl := hf1216_0.hl
        refine ⟨_, rfl, .inl ⟨PIn.keep PIn.nil h1216, ?_⟩⟩
        have h1217 := St.pickT (C := [_, _, _, _, _, _, _, _, _, _]) h1216 [2, 0, 3, 5, 6] (by decide)
        simp only [pick, zfc, zfn, zgz, zgs, zca, zna] at h1217
        exact hT988 _ _ ⟨some ⟨b1193, 0, none⟩, some b1193, 32, (fun _ => 0#8), ay0_1211, py0_1212, cy0_1214, Fy0_1215, b1192, (zer (zer (zer (zer (zer zen))))), h1217, ho1193, hf1216_0⟩
      ·
       refine PlanT.toLine ?_
       refine Plan.constConv PIn.nil h1193 hb1192 hk1193_b1192 FRef17.slu40 FRef17.u5 rfl rfl fun w1218 h1218 => ?_
       refine Plan.buildSlice h1218 (ps := [(4, fun i => .slice ((fun i => ([ain_31, some ⟨b5, 0, none⟩, some ⟨b6, 0, none⟩, some ⟨b7, 0, none⟩] : List (Option Addr)).getD i none) i) ((fun i => ([(List.replicate 32 0#8).length, 32, 32, 32] : List Nat).getD i 0) i) ((fun i => ([cin_31, 32, 32, 32] : List Nat).getD i 0) i))]) FRef17.slu102 FRef17.sz40 FRef17.zv40 (by decide) (by decide) rfl rfl rfl (EffO.keep PIn.nil) fun b1220 w1220 hb1220 h1220 => ?_
       simp only [rngs, List.cons_append, List.nil_append] at h1220
       refine Plan.call (vs := [.slice (some ⟨b1220, 0, none⟩) 4 4]) rfl FRef17.call53 rfl (letheref03_Joined_ok (by exact (Bss.of 0 rfl rfl (fun i hi => match i, hi with | 0, _ => ⟨_, (hin_31.bx 3 rfl)⟩ | 1, _ => ⟨_, (Bx.arr0 (n := 32) (cc := 32) 8 rfl (by omega) (by omega))⟩ | 2, _ => ⟨_, (Bx.arr0 (n := 32) (cc := 32) 7 rfl (by omega) (by omega))⟩ | 3, _ => ⟨_, (Bx.arr0 (n := 32) (cc := 32) 6 rfl (by omega) (by omega))⟩ | k + 4, hk => absurd hk (by omega)))) hr688 h1220) ?_
       rintro _ w1228 ⟨ay0_1223, py0_1224, ny0_1225, cy0_1226, Fy0_1227, rfl, h1228, hf1228_0⟩
       obtain rfl := hf1228_0.hl
       refine ⟨_, rfl, .inl ⟨PIn.keep PIn.nil h1228, ?_⟩⟩
       have h1229 := St.pickT (C := [_, _, _, _, _, _, _, _, _, _]) h1228 [2, 0, 3, 5, 6] (by decide)
       simp only [pick, zfc, zfn, zgz, zgs, zca, zna] at h1229
       exact hT988 _ _ ⟨some ⟨b1193, 0, none⟩, some b1193, 32, (fun _ => 0#8), ay0_1223, py0_1224, cy0_1226, Fy0_1227, b1192, (zer (zer (zer (zer (zer zen))))), h1229, ho1193, hf1228_0⟩
     ·
      refine PlanT.toFork ?_
      refine Plan.forked ?_ ?_
      ·
       refine PlanT.toFork ?_
       have h1232 := St.asro h1192
       simp only [List.map_cons, Rg.ro_mk] at h1232
       refine Plan.buildSlice h1232 (ps := [(4, fun i => .slice ((fun i => ([ain_31, some ⟨b5, 0, none⟩, some ⟨b6, 0, none⟩, some ⟨b7, 0, none⟩] : List (Option Addr)).getD i none) i) ((fun i => ([(List.replicate 32 0#8).length, 32, 32, 32] : List Nat).getD i 0) i) ((fun i => ([cin_31, 32, 32, 32] : List Nat).getD i 0) i))]) FRef17.slu102 FRef17.sz40 FRef17.zv40 (by decide) (by decide) rfl rfl rfl (EffO.keep PIn.nil) fun b1231 w1231 hb1231 h1231 => ?_
       simp only [rngs, List.cons_append, List.nil_append] at h1231
       have hk1231_b1192 := (h1231.below.block _ (hk_lt hk1192)).trans hk1192
       replace h1231 := St.unro (N := [_]) h1192 h1231 (by intro r hr; simp only [List.mem_cons, List.not_mem_nil, or_false] at hr; rcases hr with rfl <;> rfl)
       simp only [zca, zna] at h1231
       refine Plan.forked ?_ ?_
       ·
        refine PlanT.toFork ?_
        refine Plan.makeK (m := 32) (c := 32) PIn.nil h1231 FRef17.el40 rfl rfl rfl (by omega) (by omega) fun b1233 w1233 hb1233 hw1233 ho1233 h1233 => ?_
        have hk1233_b1192 := hw1233 _ _ hk1231_b1192
        refine Plan.forked ?_ ?_
        ·
         refine PlanT.toLine ?_
         have h1241 := St.asro h1233
         simp only [List.map_cons, Rg.ro_mk] at h1241
         refine Plan.call (vs := [.slice (some ⟨b1231, 0, none⟩) 4 4]) rfl FRef17.call53 rfl (letheref03_Joined_ok (by exact (Bss.of 1 rfl rfl (fun i hi => match i, hi with | 0, _ => ⟨_, (hin_31.bx 3 rfl)⟩ | 1, _ => ⟨_, (Bx.arr0 (n := 32) (cc := 32) 8 rfl (by omega) (by omega))⟩ | 2, _ => ⟨_, (Bx.arr0 (n := 32) (cc := 32) 7 rfl (by omega) (by omega))⟩ | 3, _ => ⟨_, (Bx.arr0 (n := 32) (cc := 32) 6 rfl (by omega) (by omega))⟩ | k + 4, hk => absurd hk (by omega)))) hr688 h1241) ?_
         rintro _ w1242 ⟨ay0_1236, py0_1237, ny0_1238, cy0_1239, Fy0_1240, rfl, h1242, hf1242_0⟩
         have hk1242_b1192 := (h1242.below.block _ (hk_lt hk1233_b1192)).trans hk1233_b1192
         replace h1242 := St.unro (N := [_]) h1233 h1242 (by intro r hr; simp only [List.mem_cons, List.not_mem_nil, or_false] at hr; rcases hr with rfl <;> rfl)
         simp only [zca, zna] at h1242
         obtain rfl := hf1242_0.hl
         refine ⟨_, rfl, .inl ⟨PIn.keep PIn.nil h1242, ?_⟩⟩
         refine Plan.constConv PIn.nil h1242 hb1192 hk1242_b1192 FRef17.slu40 FRef17.u5 rfl rfl fun w1243 h1243 => ?_
         have h1244 := St.pickT (C := [_, _, _, _, _, _, _, _, _, _]) h1243 [1, 0, 3, 5, 6] (by decide)
         simp only [pick, zfc, zfn, zgz, zgs, zca, zna] at h1244
         exact hT988 _ _ ⟨some ⟨b1233, 0, none⟩, some b1233, 32, (fun _ => 0#8), ay0_1236, py0_1237, cy0_1239, Fy0_1240, b1192, (zer (zer (zer (zer (zer zen))))), h1244, ho1233, hf1242_0⟩
        ·
         refine PlanT.toLine ?_
         refine Plan.constConv PIn.nil h1233 hb1192 hk1233_b1192 FRef17.slu40 FRef17.u5 rfl rfl fun w1245 h1245 => ?_
         refine Plan.call (vs := [.slice (some ⟨b1231, 0, none⟩) 4 4]) rfl FRef17.call53 rfl (letheref03_Joined_ok (by exact (Bss.of 1 rfl rfl (fun i hi => match i, hi with | 0, _ => ⟨_, (hin_31.bx 3 rfl)⟩ | 1, _ => ⟨_, (Bx.arr0 (n := 32) (cc := 32) 8 rfl (by omega) (by omega))⟩ | 2, _ => ⟨_, (Bx.arr0 (n := 32) (cc := 32) 7 rfl (by omega) (by omega))⟩ | 3, _ => ⟨_, (Bx.arr0 (n := 32) (cc := 32) 6 rfl (by omega) (by omega))⟩ | k + 4, hk => absurd hk (by omega)))) hr688 h1245) ?_
         rintro _ w1253 ⟨ay0_1248, py0_1249, ny0_1250, cy0_1251, Fy0_1252, rfl, h1253, hf1253_0⟩
         obtain rfl := hf1253_0.hl
         refine ⟨_, rfl, .inl ⟨PIn.keep PIn.nil h1253, ?_⟩⟩
         have h1254 := St.pickT (C := [_, _, _, _, _, _, _, _, _, _]) h1253 [1, 0, 3, 5, 6] (by decide)
         simp only [pick, zfc, zfn, zgz, zgs, zca, zna] at h1254
         exact hT988 _ _ ⟨some ⟨b1233, 0, none⟩, some b1233, 32, (fun _ => 0#8), ay0_1248, py0_1249, cy0_1251, Fy0_1252, b1192, (zer (zer (zer (zer (zer zen))))), h1254, ho1233, hf1253_0⟩
       ·
        refine PlanT.toFork ?_
        refine Plan.forked ?_ ?_
        ·
         refine PlanT.toFork ?_
         have h1262 := St.asro h1231
         simp only [List.map_cons, Rg.ro_mk] at h1262
         refine Plan.call (vs := [.slice (some ⟨b1231, 0, none⟩) 4 4]) rfl FRef17.call53 rfl (letheref03_Joined_ok (by exact (Bss.of 0 rfl rfl (fun i hi => match i, hi with | 0, _ => ⟨_, (hin_31.bx 2 rfl)⟩ | 1, _ => ⟨_, (Bx.arr0 (n := 32) (cc := 32) 7 rfl (by omega) (by omega))⟩ | 2, _ => ⟨_, (Bx.arr0 (n := 32) (cc := 32) 6 rfl (by omega) (by omega))⟩ | 3, _ => ⟨_, (Bx.arr0 (n := 32) (cc := 32) 5 rfl (by omega) (by omega))⟩ | k + 4, hk => absurd hk (by omega)))) hr688 h1262) ?_
         rintro _ w1263 ⟨ay0_1257, py0_1258, ny0_1259, cy0_1260, Fy0_1261, rfl, h1263, hf1263_0⟩
         have hk1263_b1192 := (h1263.below.block _ (hk_lt hk1231_b1192)).trans hk1231_b1192
         replace h1263 := St.unro (N := [_]) h1231 h1263 (by intro r hr; simp only [List.mem_cons, List.not_mem_nil, or_false] at hr; rcases hr with rfl <;> rfl)
         simp only [zca, zna] at h1263
         obtain rfl := hf1263_0.hl
         refine ⟨_, rfl, .inl ⟨PIn.keep PIn.nil h1263, ?_⟩⟩
         refine Plan.forked ?_ ?_
         ·
          refine PlanT.toLine ?_
          refine Plan.makeK (m := 32) (c := 32) PIn.nil h1263 FRef17.el40 rfl rfl rfl (by omega) (by omega) fun b1264 w1264 hb1264 hw1264 ho1264 h1264 => ?_
          have hk1264_b1192 := hw1264 _ _ hk1263_b1192
          refine Plan.constConv PIn.nil h1264 hb1192 hk1264_b1192 FRef17.slu40 FRef17.u5 rfl rfl fun w1265 h1265 => ?_
          have h1266 := St.pickT (C := [_, _, _, _, _, _, _, _, _, _]) h1265 [0, 1, 3, 5, 6] (by decide)
          simp only [pick, zfc, zfn, zgz, zgs, zca, zna] at h1266
          exact hT988 _ _ ⟨some ⟨b1264, 0, none⟩, some b1264, 32, (fun _ => 0#8), ay0_1257, py0_1258, cy0_1260, Fy0_1261, b1192, (zer (zer (zer (zer (zer zen))))), h1266, ho1264, hf1263_0⟩
         ·
          refine PlanT.toLine ?_
          refine Plan.constConv PIn.nil h1263 hb1192 hk1263_b1192 FRef17.slu40 FRef17.u5 rfl rfl fun w1267 h1267 => ?_
          refine Plan.makeO (len := 32) (c := 32) h1267 FRef17.el40 rfl rfl rfl (by omega) (by omega) (fun _ => EffO.keep PIn.nil) fun b1268 w1268 hb1268 ho1268 h1268 => ?_
          have h1269 := St.pickT (C := [_, _, _, _, _, _, _, _, _, _]) h1268 [0, 1, 3, 5, 6] (by decide)
          simp only [pick, zfc, zfn, zgz, zgs, zca, zna] at h1269
          exact hT988 _ _ ⟨some ⟨b1268, 0, none⟩, some b1268, 32, (fun _ => 0#8), ay0_1257, py0_1258, cy0_1260, Fy0_1261, b1192, (zer (zer (zer (zer (zer zen))))), h1269, ho1268, hf1263_0⟩
        ·
         refine PlanT.toFork ?_
         refine Plan.constConv PIn.nil h1231 hb1192 hk1231_b1192 FRef17.slu40 FRef17.u5 rfl rfl fun w1270 h1270 => ?_
         refine Plan.forked ?_ ?_
         ·
          refine PlanT.toLine ?_
          refine Plan.makeO (len := 32) (c := 32) h1270 FRef17.el40 rfl rfl rfl (by omega) (by omega) (fun _ => EffO.keep PIn.nil) fun b1271 w1271 hb1271 ho1271 h1271 => ?_
          refine Plan.call (vs := [.slice (some ⟨b1231, 0, none⟩) 4 4]) rfl FRef17.call53 rfl (letheref03_Joined_ok (by exact (Bss.of 1 rfl rfl (fun i hi => match i, hi with | 0, _ => ⟨_, (hin_31.bx 3 rfl)⟩ | 1, _ => ⟨_, (Bx.arr0 (n := 32) (cc := 32) 8 rfl (by omega) (by omega))⟩ | 2, _ => ⟨_, (Bx.arr0 (n := 32) (cc := 32) 7 rfl (by omega) (by omega))⟩ | 3, _ => ⟨_, (Bx.arr0 (n := 32) (cc := 32) 6 rfl (by omega) (by omega))⟩ | k + 4, hk => absurd hk (by omega)))) hr688 h1271) ?_
          rintro _ w1279 ⟨ay0_1274, py0_1275, ny0_1276, cy0_1277, Fy0_1278, rfl, h1279, hf1279_0⟩
          obtain rfl := hf1279_0.hl
          refine ⟨_, rfl, .inl ⟨PIn.keep PIn.nil h1279, ?_⟩⟩
          have h1280 := St.pickT (C := [_, _, _, _, _, _, _, _, _, _]) h1279 [1, 0, 3, 5, 6] (by decide)
          simp only [pick, zfc, zfn, zgz, zgs, zca, zna] at h1280
          exact hT988 _ _ ⟨some ⟨b1271, 0, none⟩, some b1271, 32, (fun _ => 0#8), ay0_1274, py0_1275, cy0_1277, Fy0_1278, b1192, (zer (zer (zer (zer (zer zen))))), h1280, ho1271, hf1279_0⟩
         ·
          refine PlanT.toLine ?_
          refine Plan.call (vs := [.slice (some ⟨b1231, 0, none⟩) 4 4]) rfl FRef17.call53 rfl (letheref03_Joined_ok (by exact (Bss.of 0 rfl rfl (fun i hi => match i, hi with | 0, _ => ⟨_, (hin_31.bx 2 rfl)⟩ | 1, _ => ⟨_, (Bx.arr0 (n := 32) (cc := 32) 7 rfl (by omega) (by omega))⟩ | 2, _ => ⟨_, (Bx.arr0 (n := 32) (cc := 32) 6 rfl (by omega) (by omega))⟩ | 3, _ => ⟨_, (Bx.arr0 (n := 32) (cc := 32) 5 rfl (by omega) (by omega))⟩ | k + 4, hk => absurd hk (by omega)))) hr688 h1270) ?_
          rintro _ w1288 ⟨ay0_1283, py0_1284, ny0_1285, cy0_1286, Fy0_1287, rfl, h1288, hf1288_0⟩
          obtain rfl := hf1288_0.hl
          refine ⟨_, rfl, .inl ⟨PIn.keep PIn.nil h1288, ?_⟩⟩
          refine Plan.makeO (len := 32) (c := 32) h1288 FRef17.el40 rfl rfl rfl (by omega) (by omega) (fun _ => EffO.keep PIn.nil) fun b1289 w1289 hb1289 ho1289 h1289 => ?_
          have h1290 := St.pickT (C := [_, _, _, _, _, _, _, _, _, _]) h1289 [0, 1, 3, 5, 6] (by decide)
          simp only [pick, zfc, zfn, zgz, zgs, zca, zna] at h1290
          exact hT988 _ _ ⟨some ⟨b1289, 0, none⟩, some b1289, 32, (fun _ => 0#8), ay0_1283, py0_1284, cy0_1286, Fy0_1287, b1192, (zer (zer (zer (zer (zer zen))))), h1290, ho1289, hf1288_0⟩
      ·
       refine PlanT.toFork ?_
       refine Plan.constConv PIn.nil h1192 hb1192 hk1192 FRef17.slu40 FRef17.u5 rfl rfl fun w1291 h1291 => ?_
       refine Plan.forked ?_ ?_
       ·
        refine PlanT.toLine ?_
        refine Plan.makeO (len := 32) (c := 32) h1291 FRef17.el40 rfl rfl rfl (by omega) (by omega) (fun _ => EffO.keep PIn.nil) fun b1292 w1292 hb1292 ho1292 h1292 => ?_
        refine Plan.buildSlice h1292 (ps := [(4, fun i => .slice ((fun i => ([ain_31, some ⟨b5, 0, none⟩, some ⟨b6, 0, none⟩, some ⟨b7, 0, none⟩] : List (Option Addr)).getD i none) i) ((fun i => ([(List.replicate 32 0#8).length, 32, 32, 32] : List Nat).getD i 0) i) ((fun i => ([cin_31, 32, 32, 32] : List Nat).getD i 0) i))]) FRef17.slu102 FRef17.sz40 FRef17.zv40 (by decide) (by decide) rfl rfl rfl (EffO.keep PIn.nil) fun b1294 w1294 hb1294 h1294 => ?_
        simp only [rngs, List.cons_append, List.nil_append] at h1294
        refine Plan.call (vs := [.slice (some ⟨b1294, 0, none⟩) 4 4]) rfl FRef17.call53 rfl (letheref03_Joined_ok (by exact (Bss.of 0 rfl rfl (fun i hi => match i, hi with | 0, _ => ⟨_, (hin_31.bx 3 rfl)⟩ | 1, _ => ⟨_, (Bx.arr0 (n := 32) (cc := 32) 8 rfl (by omega) (by omega))⟩ | 2, _ => ⟨_, (Bx.arr0 (n := 32) (cc := 32) 7 rfl (by omega) (by omega))⟩ | 3, _ => ⟨_, (Bx.arr0 (n := 32) (cc := 32) 6 rfl (by omega) (by omega))⟩ | k + 4, hk => absurd hk (by omega)))) hr688 h1294) ?_
        rintro _ w1302 ⟨ay0_1297, py0_1298, ny0_1299, cy0_1300, Fy0_1301, rfl, h1302, hf1302_0⟩
        obtain rfl := hf1302_0.hl
        refine ⟨_, rfl, .inl ⟨PIn.keep PIn.nil h1302, ?_⟩⟩
        have h1303 := St.pickT (C := [_, _, _, _, _, _, _, _, _, _]) h1302 [2, 0, 3, 5, 6] (by decide)
        simp only [pick, zfc, zfn, zgz, zgs, zca, zna] at h1303
        exact hT988 _ _ ⟨some ⟨b1292, 0, none⟩, some b1292, 32, (fun _ => 0#8), ay0_1297, py0_1298, cy0_1300, Fy0_1301, b1192, (zer (zer (zer (zer (zer zen))))), h1303, ho1292, hf1302_0⟩
       ·
        refine PlanT.toFork ?_
        refine Plan.buildSlice h1291 (ps := [(4, fun i => .slice ((fun i => ([ain_31, some ⟨b5, 0, none⟩, some ⟨b6, 0, none⟩, some ⟨b7, 0, none⟩] : List (Option Addr)).getD i none) i) ((fun i => ([(List.replicate 32 0#8).length, 32, 32, 32] : List Nat).getD i 0) i) ((fun i => ([cin_31, 32, 32, 32] : List Nat).getD i 0) i))]) FRef17.slu102 FRef17.sz40 FRef17.zv40 (by decide) (by decide) rfl rfl rfl (EffO.keep PIn.nil) fun b1305 w1305 hb1305 h1305 => ?_
        simp only [rngs, List.cons_append, List.nil_append] at h1305
        refine Plan.forked ?_ ?_
        ·
         refine PlanT.toLine ?_
         refine Plan.makeO (len := 32) (c := 32) h1305 FRef17.el40 rfl rfl rfl (by omega) (by omega) (fun _ => EffO.keep PIn.nil) fun b1306 w1306 hb1306 ho1306 h1306 => ?_
         refine Plan.call (vs := [.slice (some ⟨b1305, 0, none⟩) 4 4]) rfl FRef17.call53 rfl (letheref03_Joined_ok (by exact (Bss.of 1 rfl rfl (fun i hi => match i, hi with | 0, _ => ⟨_, (hin_31.bx 3 rfl)⟩ | 1, _ => ⟨_, (Bx.arr0 (n := 32) (cc := 32) 8 rfl (by omega) (by omega))⟩ | 2, _ => ⟨_, (Bx.arr0 (n := 32) (cc := 32) 7 rfl (by omega) (by omega))⟩ | 3, _ => ⟨_, (Bx.arr0 (n := 32) (cc := 32) 6 rfl (by omega) (by omega))⟩ | k + 4, hk => absurd hk (by omega)))) hr688 h1306) ?_
         rintro _ w1314 ⟨ay0_1309, py0_1310, ny0_1311, cy0_1312, Fy0_1313, rfl, h1314, hf1314_0⟩
         obtain rfl := hf1314_0.hl
         refine ⟨_, rfl, .inl ⟨PIn.keep PIn.nil h1314, ?_⟩⟩
         have h1315 := St.pickT (C := [_, _, _, _, _, _, _, _, _, _]) h1314 [1, 0, 3, 5, 6] (by decide)
         simp only [pick, zfc, zfn, zgz, zgs, zca, zna] at h1315
         exact hT988 _ _ ⟨some ⟨b1306, 0, none⟩, some b1306, 32, (fun _ => 0#8), ay0_1309, py0_1310, cy0_1312, Fy0_1313, b1192, (zer (zer (zer (zer (zer zen))))), h1315, ho1306, hf1314_0⟩
        ·
         refine PlanT.toLine ?_
         refine Plan.call (vs := [.slice (some ⟨b1305, 0, none⟩) 4 4]) rfl FRef17.call53 rfl (letheref03_Joined_ok (by exact (Bss.of 0 rfl rfl (fun i hi => match i, hi with | 0, _ => ⟨_, (hin_31.bx 2 rfl)⟩ | 1, _ => ⟨_, (Bx.arr0 (n := 32) (cc := 32) 7 rfl (by omega) (by omega))⟩ | 2, _ => ⟨_, (Bx.arr0 (n := 32) (cc := 32) 6 rfl (by omega) (by omega))⟩ | 3, _ => ⟨_, (Bx.arr0 (n := 32) (cc := 32) 5 rfl (by omega) (by omega))⟩ | k + 4, hk => absurd hk (by omega)))) hr688 h1305) ?_
         rintro _ w1323 ⟨ay0_1318, py0_1319, ny0_1320, cy0_1321, Fy0_1322, rfl, h1323, hf1323_0⟩
         obtain rfl := hf1323_0.hl
         refine ⟨_, rfl, .inl ⟨PIn.keep PIn.nil h1323, ?_⟩⟩
         refine Plan.makeO (len := 32) (c := 32) h1323 FRef17.el40 rfl rfl rfl (by omega) (by omega) (fun _ => EffO.keep PIn.nil) fun b1324 w1324 hb1324 ho1324 h1324 => ?_
         have h1325 := St.pickT (C := [_, _, _, _, _, _, _, _, _, _]) h1324 [0, 1, 3, 5, 6] (by decide)
         simp only [pick, zfc, zfn, zgz, zgs, zca, zna] at h1325
         exact hT988 _ _ ⟨some ⟨b1324, 0, none⟩, some b1324, 32, (fun _ => 0#8), ay0_1318, py0_1319, cy0_1321, Fy0_1322, b1192, (zer (zer (zer (zer (zer zen))))), h1325, ho1324, hf1323_0⟩
  ·
   rintro ev1326 wl1326 ⟨y_b682, hy1326_0, rb682, ab682, cb682, he1326, h1326, hb682⟩
   subst hy1326_0
   obtain ⟨ev1326, rfl⟩ := he1326.open
   replace hR := hR0683
   refine k41 _ _ ?_; clear k41
   refine W.seq_k fun _ k1327 => W.regionT [(0, false)] (by kernel_rfl) ?_
   refine Plan.alloc h1326 rfl FRef17.z23 PIn.nil fun b1328 w1328 hb1328 h1328 => ?_
   simp only [rngs, Nat.zero_add, Nat.reduceAdd, zca, zna] at h1328
   refine Plan.nil (k1327 _ _ ?_); clear k1327
   refine W.seq_k fun _ k1329 => W.regionT [(0, false)] (by kernel_rfl) ?_
   refine Plan.alloc h1328 rfl FRef17.z30 PIn.nil fun b1330 w1330 hb1330 h1330 => ?_
   simp only [rngs, Nat.zero_add, Nat.reduceAdd, zca, zna] at h1330
   refine Plan.nil (k1329 _ _ ?_); clear k1329
   refine W.seq_k fun _ k1331 => W.seq_k fun _ k1332 => ?_
   refine W.regionT [(0, true)] (by kernel_rfl) ?_
   refine Plan.assign_int rfl rfl <| Plan.nil (k1332 _ _ ?_); clear k1332
   obtain ⟨m1364, m1365, hI1366, hR01366⟩ := hR
   refine W.cutN (fun e w => ∃ y_m1364 : Nat → BitVec 8, ∃ y_m1365 : Nat → BitVec 8, (m1364, m1365) = (y_m1364, y_m1365) ∧ EnvHas e [(6, .pointer (some ⟨b8, 0, none⟩)), (7, .pointer (some ⟨b9, 0, none⟩)), (12, .pointer (some ⟨b1328, 0, none⟩)), (13, .pointer (some ⟨b1330, 0, none⟩))] ∧ St B w0 (⟨some b1330, 0, 16, fun q => VU .u8 (y_m1364 q), true⟩ :: ⟨some b1328, 0, 32, fun q => VU .u8 (y_m1365 q), true⟩ :: ⟨some b9, 0, 16, fun q => VU .u8 ((fun _ => 0#8) q), true⟩ :: ⟨some b8, 0, 32, fun q => VU .u8 ((fun _ => 0#8) q), true⟩ :: L) w) ?_ ?_
   ·
    refine W.block ?_
    refine W.iter hI1366 (fun (s1366 : (Nat × (Nat → BitVec 8) × (Nat → BitVec 8))) e w => EnvHas e [(6, .pointer (some ⟨b8, 0, none⟩)), (7, .pointer (some ⟨b9, 0, none⟩)), (10, .slice ab682 b682.length cb682), (12, .pointer (some ⟨b1328, 0, none⟩)), (13, .pointer (some ⟨b1330, 0, none⟩)), (14, VN s1366.1)] ∧ St B w0 (⟨some b1330, 0, 16, fun q => VU .u8 (s1366.2.1 q), true⟩ :: ⟨some b1328, 0, 32, fun q => VU .u8 (s1366.2.2 q), true⟩ :: rb682 :: ⟨some b9, 0, 16, fun q => VU .u8 ((fun _ => 0#8) q), true⟩ :: ⟨some b8, 0, 32, fun q => VU .u8 ((fun _ => 0#8) q), true⟩ :: L) w) ⟨(zer (zer (zer (zer (zer (zer zen)))))), h1330⟩ ?_
    rintro ⟨i_1361, m1362, m1363⟩ o1366 hR hx1366 ev1367 wl1367 ⟨he1367, h1367⟩
    obtain ⟨ev1367, rfl⟩ := he1367.open
    unfold letheref17_Made_l1 at hR
    refine W.seq_k fun _ k1368 => W.seq_k fun _ k1369 => ?_
    refine W.regionT [(0, true), (1, true)] (by kernel_rfl) ?_
    refine Plan.move_int rfl rfl <| Plan.cmpP (a := (((i_1361 : Nat) : Int) : Int)) (b := (48 : Int)) (p := i_1361 < 48) rfl rfl rfl rfl icmp_ltN <| Plan.nil (k1369 _ _ ?_); clear k1369
    by_cases hc1370 : i_1361 < 48
    ·
     replace hR := ifT hR hc1370
     refine W.condT (congrArg Value.bool (decide_eq_true hc1370)) ?_
     refine W.skip ?_
     refine k1368 _ _ ?_; clear k1368
     refine W.seq_k fun _ k1371 => ?_
     refine W.block ?_
     refine W.seq_k fun _ k1372 => W.regionT [(0, true), (1, true)] (by kernel_rfl) ?_
     refine Plan.move_int rfl rfl <| Plan.cmpP (a := (((i_1361 : Nat) : Int) : Int)) (b := (32 : Int)) (p := i_1361 < 32) rfl rfl rfl rfl icmp_ltN <| Plan.nil (k1372 _ _ ?_); clear k1372
     by_cases hc1373 : i_1361 < 32
     ·
      replace hR := ifT hR hc1373
      refine W.condT (congrArg Value.bool (decide_eq_true hc1373)) ?_
      refine W.regionT [(0, true), (1, true), (2, true), (3, true), (4, true), (5, true), (6, false)] (by kernel_rfl) ?_
      refine Plan.move_int rfl rfl <| Plan.move_slice rfl rfl <| Plan.move_int rfl rfl ?_
      obtain ⟨hc1374, hR⟩ := hR
      refine Plan.idxVS (j := i_1361) h1367 (Bx.move (j := 2) hb682 rfl rfl) FRef17.sl40 rfl rfl rfl hc1374 ?_
      refine Plan.loadV (j := i_1361) h1367 (Bx.move (j := 2) hb682 rfl rfl) rfl rfl hc1374 FRef17.sc5 fun r1375 hr1375 => ?_
      refine Plan.idxArr1 (j := i_1361) FRef17.arr23 rfl rfl rfl (by omega) ?_
      refine Plan.storeU (j := i_1361) (X := (lit b682 i_1361)) h1367 1 rfl rfl rfl rfl (by omega) FRef17.sz5 rfl fun w1376 h1376 => ?_
      simp only [zca, zna, zsz, zss] at h1376
      refine Plan.nil ?_
      refine blockR_norm ?_
      refine k1371 _ _ ?_; clear k1371
      refine W.regionT [(0, true), (1, true), (2, true)] (by kernel_rfl) ?_
      refine Plan.move_int rfl rfl <| Plan.addN (a := i_1361) (b := 1) rfl rfl rfl (by omega) <| Plan.assign_int rfl rfl <| Plan.nil ?_
      exact iterR_norm ⟨_, hR, (zer (zer (zer (zer (zer (zer zen)))))), h1376⟩
     ·
      replace hR := ifF hR hc1373
      refine W.condF (congrArg Value.bool (decide_eq_false hc1373)) ?_
      refine W.regionT [(0, true), (1, true), (2, true), (3, true), (4, true), (5, true), (6, true), (7, false)] (by kernel_rfl) ?_
      refine Plan.move_int rfl rfl <| Plan.subN (a := i_1361) (b := 32) rfl rfl rfl (by omega) <| Plan.move_slice rfl rfl <| Plan.move_int rfl rfl ?_
      obtain ⟨hc1377, hR⟩ := hR
      refine Plan.idxVS (j := i_1361) h1367 (Bx.move (j := 2) hb682 rfl rfl) FRef17.sl40 rfl rfl rfl hc1377 ?_
      refine Plan.loadV (j := i_1361) h1367 (Bx.move (j := 2) hb682 rfl rfl) rfl rfl hc1377 FRef17.sc5 fun r1378 hr1378 => ?_
      refine Plan.idxArr1 (j := (i_1361 - 32)) FRef17.arr30 rfl rfl rfl (by omega) ?_
      refine Plan.storeU (j := (i_1361 - 32)) (X := (lit b682 i_1361)) h1367 0 rfl rfl rfl rfl (by omega) FRef17.sz5 rfl fun w1379 h1379 => ?_
      simp only [zca, zna, zsz, zss] at h1379
      refine Plan.nil ?_
      refine blockR_norm ?_
      refine k1371 _ _ ?_; clear k1371
      refine W.regionT [(0, true), (1, true), (2, true)] (by kernel_rfl) ?_
      refine Plan.move_int rfl rfl <| Plan.addN (a := i_1361) (b := 1) rfl rfl rfl (by omega) <| Plan.assign_int rfl rfl <| Plan.nil ?_
      exact iterR_norm ⟨_, hR, (zer (zer (zer (zer (zer (zer zen)))))), h1379⟩
    ·
     replace hR := ifF hR hc1370
     refine W.condF (congrArg Value.bool (decide_eq_false hc1370)) ?_
     refine W.exit (thenR_exit (iterR_exit (blockR_here ?_)))
     have h1380 := St.pickT (C := [_, _, _, _, _]) h1367 [0, 1, 3, 4] (by decide)
     simp only [pick, zfc, zfn, zgz, zgs, zca, zna] at h1380
     exact ⟨m1362, m1363, (hx1366 _ hR).symm, (zer (zer (zer (zer zen)))), h1380⟩
   ·
    rintro ev1381 wl1381 ⟨y_m1364, y_m1365, hy1381, he1381, h1381⟩
    obtain ⟨ev1381, rfl⟩ := he1381.open
    cases hy1381
    replace hR := hR01366
    refine k1331 _ _ ?_; clear k1331
    refine W.seq_k fun _ k1382 => ?_
    refine W.regionD FRef17.mixed [(0, true), (1, true), (2, false), (3, false)] (by kernel_rfl) ?_
    have h1383 := h1381.drew
    refine Plan.loadA1 h1383 1 rfl rfl rfl FRef17.agg23 <| Plan.loadA1 h1383 0 rfl rfl rfl FRef17.agg30 ?_
    refine Plan.storeP (ps := [(32, fun q => VU .u8 (m1365 q))]) h1383 rfl rfl rfl (.cons 3 rfl .nil) ⟨fun _ _ => rfl, trivial⟩ FRef17.sz23 (EffO.mix _ (Filt.keep rfl (Filt.drop rfl Filt.nil)) (PIn.cons 0 rfl PIn.nil)) fun w1384 h1384 => ?_
    simp only [zca, zna, zsz, zss] at h1384
    refine Plan.storeA (f' := fun q => VU .u8 (m1364 q)) h1384 2 rfl rfl rfl rfl (fun _ _ => rfl) FRef17.sz30 rfl fun w1385 h1385 => ?_
    simp only [zca, zna, zsz, zss] at h1385
    refine Plan.nil (k1382 _ _ ?_); clear k1382
    refine W.ret (finR_ret ?_)
    have h1386 := St.pickT (C := [_, _, _, _]) h1385 [] (by decide)
    simp only [pick, zfc, zfn, zgz, zgs, zca, zna] at h1386
    subst r
    refine RetOk.mk (.agg h1385 rfl (.cons 3 rfl .nil) FRef17.agg23 (.agg h1385 rfl (.cons 2 rfl .nil) FRef17.agg30 .nil)) ?_
    exact ⟨rfl, h1386⟩
theorem letheref17_Start_ok {B : Nat} {w0 w : World} {L : List Rg} {iG4 : Nat} (hG4 : L[iG4]? = some ⟨some 4, 0, 8, fun q => VU .u64 (H64 q), false⟩) {iG5 : Nat} (hG5 : L[iG5]? = some ⟨some 5, 0, 64, fun q => VU .u64 (K64 q), false⟩) {ownPriv1 : Nat → BitVec 8} {ownPub2 : Nat → BitVec 8} {oncePriv3 : Nat → BitVec 8} {oncePub4 : Nat → BitVec 8} {offerIdentity5 : Nat → BitVec 8} {offerPrekey6 : BitVec 32} {offerKey7 : Nat → BitVec 8} {r : ((Nat → BitVec 8) × (Nat → BitVec 8) × (Nat → BitVec 8) × (Nat → BitVec 8) × (Nat → BitVec 8) × (BitVec 32) × Nat)} (hR : letheref17_Start ownPriv1 ownPub2 oncePriv3 oncePub4 offerIdentity5 offerPrekey6 offerKey7 r) (HST : St B w0 (L) w) :
  Calls Tryd.prog 18 #[AG [(32, fun q => VU .u8 (ownPriv1 q)), (32, fun q => VU .u8 (ownPub2 q))], AG [(32, fun q => VU .u8 (oncePriv3 q)), (32, fun q => VU .u8 (oncePub4 q))], AG [(32, fun q => VU .u8 (offerIdentity5 q)), (1, fun _ => VU .u32 offerPrekey6), (32, fun q => VU .u8 (offerKey7 q))]] w fun e w' => e = .returned (AG [(32, fun q => VU .u8 (r.1 q)), (16, fun q => VU .u8 (r.2.1 q)), (64, fun q => VU .u8 (r.2.2.1 q)), (32, fun q => VU .u8 (r.2.2.2.1 q)), (32, fun q => VU .u8 (r.2.2.2.2.1 q)), (1, fun _ => VU .u32 r.2.2.2.2.2.1), (1, fun _ => VN r.2.2.2.2.2.2)]) ∧ St B w0 (L) w' := by
 refine W.enter 62 Tryd.func18 rfl rfl rfl ?_
 unfold letheref17_Start at hR
 refine W.seq_k fun _ k8 => W.regionT [(0, false), (1, false), (2, false), (3, false)] (by kernel_rfl) ?_
 refine Plan.boxA HST rfl rfl PIn.nil fun b9 w9 hb9 h9 => ?_
 simp only [rngs, Nat.zero_add, Nat.reduceAdd, zca, zna] at h9
 refine Plan.boxA h9 rfl rfl PIn.nil fun b10 w10 hb10 h10 => ?_
 simp only [rngs, Nat.zero_add, Nat.reduceAdd, zca, zna] at h10
 refine Plan.boxA h10 rfl rfl PIn.nil fun b11 w11 hb11 h11 => ?_
 simp only [rngs, Nat.zero_add, Nat.reduceAdd, zca, zna] at h11
 refine Plan.alloc h11 rfl FRef17.z35 PIn.nil fun b12 w12 hb12 h12 => ?_
 simp only [rngs, Nat.zero_add, Nat.reduceAdd, zca, zna] at h12
 refine Plan.nil (k8 _ _ ?_); clear k8
 refine W.seq_k fun _ k13 => W.seq_k fun _ k14 => ?_
 refine W.regionT [(0, true), (1, true), (2, true)] (by kernel_rfl) ?_
 refine Plan.fieldAddr 32 FRef17.fld28_1 rfl rfl <| Plan.load0 h12 8 rfl rfl rfl (by omega) FRef17.sc26 <| Plan.cmpP (a := (offerPrekey6.toNat : Int)) (b := ((0#32).toNat : Int)) (p := offerPrekey6 = 0#32) rfl rfl rfl rfl icmp_eqU <| Plan.nil (k14 _ _ ?_); clear k14
 by_cases hc15 : offerPrekey6 = 0#32
 ·
  replace hR := ifT hR hc15
  refine W.condT (congrArg Value.bool (decide_eq_true hc15)) ?_
  refine W.seq_k fun _ k16 => W.regionT [(0, true), (1, false)] (by kernel_rfl) ?_
  refine Plan.buildP (ps := [(32, fun q => VU .u8 ((fun _ => 0#8) q)), (16, fun q => VU .u8 ((fun _ => 0#8) q)), (64, fun q => VU .u8 ((fun _ => 0#8) q)), (32, fun q => VU .u8 ((fun _ => 0#8) q)), (32, fun q => VU .u8 ((fun _ => 0#8) q)), (1, fun _ => VU .u32 (0#32)), (1, fun _ => VN 170)]) FRef17.pl35 (by decide) FRef17.z35 rfl rfl (.one [(32, fun q => VU .u8 ((fun _ => 0#8) q)), (16, fun q => VU .u8 ((fun _ => 0#8) q)), (64, fun q => VU .u8 ((fun _ => 0#8) q)), (32, fun q => VU .u8 ((fun _ => 0#8) q)), (32, fun q => VU .u8 ((fun _ => 0#8) q)), (1, fun _ => VU .u32 (0#32))] [] (fun _ => VN 0) rfl rfl .nil) ?_
  refine Plan.storeP (ps := [(32, fun q => VU .u8 ((fun _ => 0#8) q)), (16, fun q => VU .u8 ((fun _ => 0#8) q)), (64, fun q => VU .u8 ((fun _ => 0#8) q)), (32, fun q => VU .u8 ((fun _ => 0#8) q)), (32, fun q => VU .u8 ((fun _ => 0#8) q)), (1, fun _ => VU .u32 (0#32)), (1, fun _ => VN 170)]) h12 rfl rfl rfl (.cons 0 rfl (.cons 1 rfl (.cons 2 rfl (.cons 3 rfl (.cons 4 rfl (.cons 5 rfl (.cons 6 rfl .nil))))))) ⟨fun _ _ => rfl, fun _ _ => rfl, fun _ _ => rfl, fun _ _ => rfl, fun _ _ => rfl, fun _ _ => rfl, fun _ _ => rfl, trivial⟩ FRef17.sz35 (EffO.keep PIn.nil) fun w17 h17 => ?_
  simp only [zca, zna, zsz, zss] at h17
  refine Plan.nil (k16 _ _ ?_); clear k16
  refine W.ret (thenR_ret (finR_ret ?_))
  have h18 := St.pickT (C := [_, _, _, _, _, _, _, _, _, _, _, _, _, _]) h17 [] (by decide)
  simp only [pick, zfc, zfn, zgz, zgs, zca, zna] at h18
  subst r
  refine RetOk.mk (.agg h17 rfl (.cons 0 rfl (.cons 1 rfl (.cons 2 rfl (.cons 3 rfl (.cons 4 rfl (.cons 5 rfl (.cons 6 rfl .nil))))))) FRef17.agg35 .nil) ?_
  exact ⟨rfl, h18⟩
 ·
  replace hR := ifF hR hc15
  refine W.condF (congrArg Value.bool (decide_eq_false hc15)) ?_
  refine W.skip ?_
  refine k13 _ _ ?_; clear k13
  refine W.seq_k fun _ k19 => W.regionT [(0, true), (1, true), (2, true), (3, true), (4, true), (5, true), (6, true), (7, true), (8, true), (9, true), (10, true), (11, true), (12, true), (13, true), (14, false), (15, true), (16, true), (17, true), (18, false), (19, false), (20, true)] (by kernel_rfl) ?_
  refine Plan.fieldAddr0 FRef17.fld25_0 rfl rfl <| Plan.loadA1 h12 12 rfl rfl rfl FRef17.agg23 <| Plan.fieldAddr0 FRef17.fld25_0 rfl rfl <| Plan.loadA1 h12 10 rfl rfl rfl FRef17.agg23 <| Plan.fieldAddr0 FRef17.fld25_0 rfl rfl <| Plan.loadA1 h12 10 rfl rfl rfl FRef17.agg23 ?_
  refine Plan.buildAA (V := fun x => VU .u8 x) (sz := 32) [ownPriv1, oncePriv3, oncePriv3] (0#8) FRef17.arr83 (by decide) FRef17.z83 rfl rfl rfl ?_
  refine Plan.fieldAddr 33 FRef17.fld28_2 rfl rfl <| Plan.loadA1 h12 9 rfl rfl rfl FRef17.agg23 <| Plan.fieldAddr0 FRef17.fld28_0 rfl rfl <| Plan.loadA1 h12 7 rfl rfl rfl FRef17.agg23 <| Plan.fieldAddr 33 FRef17.fld28_2 rfl rfl <| Plan.loadA1 h12 9 rfl rfl rfl FRef17.agg23 ?_
  refine Plan.buildAA (V := fun x => VU .u8 x) (sz := 32) [offerKey7, offerIdentity5, offerKey7] (0#8) FRef17.arr83 (by decide) FRef17.z83 rfl rfl rfl ?_
  obtain ⟨x_21, x_22, hr20, hR⟩ := hR
  refine Plan.call (vs := [AG [(96, fun q => VU .u8 ((arrs 32 (0#8) [ownPriv1, oncePriv3, oncePriv3]) q))], AG [(96, fun q => VU .u8 ((arrs 32 (0#8) [offerKey7, offerIdentity5, offerKey7]) q))]]) rfl FRef17.call33 rfl (letheref17_three_ok  hr20 h12) ?_
  rintro _ w23 ⟨rfl, h23⟩
  refine ⟨_, rfl, .inl ⟨PIn.keep (PIn.cons 9 rfl (PIn.cons 7 rfl (PIn.cons 9 rfl (PIn.cons 10 rfl (PIn.cons 10 rfl (PIn.cons 12 rfl PIn.nil)))))) h23, ?_⟩⟩
  refine Plan.move_tuple rfl rfl <| Plan.extract_agg rfl rfl rfl <| Plan.extract_int rfl rfl rfl ?_
  refine Plan.alloc h23 rfl FRef17.z83 (PIn.cons 9 rfl (PIn.cons 7 rfl (PIn.cons 9 rfl (PIn.cons 10 rfl (PIn.cons 10 rfl (PIn.cons 12 rfl PIn.nil)))))) fun b24 w24 hb24 h24 => ?_
  simp only [rngs, Nat.zero_add, Nat.reduceAdd, zca, zna] at h24
  refine Plan.storeA (f' := fun q => VU .u8 (x_21 q)) h24 0 rfl rfl rfl rfl (fun _ _ => rfl) FRef17.sz83 rfl fun w25 h25 => ?_
  simp only [zca, zna, zsz, zss] at h25
  refine Plan.assign_int rfl rfl <| Plan.nil (k19 _ _ ?_); clear k19
  refine W.seq_k fun _ k26 => W.seq_k fun _ k27 => ?_
  refine W.regionT [(0, true), (1, true)] (by kernel_rfl) ?_
  refine Plan.move_int rfl rfl <| Plan.cmpP (a := (((x_22 : Nat) : Int) : Int)) (b := (0 : Int)) (p := x_22 ≠ 0) rfl rfl rfl rfl icmp_neN <| Plan.nil (k27 _ _ ?_); clear k27
  by_cases hc28 : x_22 ≠ 0
  ·
   replace hR := ifT hR hc28
   refine W.condT (congrArg Value.bool (decide_eq_true hc28)) ?_
   refine W.seq_k fun _ k29 => W.regionT [(0, true), (1, true), (2, false)] (by kernel_rfl) ?_
   refine Plan.move_int rfl rfl ?_
   refine Plan.buildP (ps := [(32, fun q => VU .u8 ((fun _ => 0#8) q)), (16, fun q => VU .u8 ((fun _ => 0#8) q)), (64, fun q => VU .u8 ((fun _ => 0#8) q)), (32, fun q => VU .u8 ((fun _ => 0#8) q)), (32, fun q => VU .u8 ((fun _ => 0#8) q)), (1, fun _ => VU .u32 (0#32)), (1, fun _ => VN x_22)]) FRef17.pl35 (by decide) FRef17.z35 rfl rfl (.one [(32, fun q => VU .u8 ((fun _ => 0#8) q)), (16, fun q => VU .u8 ((fun _ => 0#8) q)), (64, fun q => VU .u8 ((fun _ => 0#8) q)), (32, fun q => VU .u8 ((fun _ => 0#8) q)), (32, fun q => VU .u8 ((fun _ => 0#8) q)), (1, fun _ => VU .u32 (0#32))] [] (fun _ => VN 0) rfl rfl .nil) ?_
   refine Plan.storeP (ps := [(32, fun q => VU .u8 ((fun _ => 0#8) q)), (16, fun q => VU .u8 ((fun _ => 0#8) q)), (64, fun q => VU .u8 ((fun _ => 0#8) q)), (32, fun q => VU .u8 ((fun _ => 0#8) q)), (32, fun q => VU .u8 ((fun _ => 0#8) q)), (1, fun _ => VU .u32 (0#32)), (1, fun _ => VN x_22)]) h25 rfl rfl rfl (.cons 1 rfl (.cons 2 rfl (.cons 3 rfl (.cons 4 rfl (.cons 5 rfl (.cons 6 rfl (.cons 7 rfl .nil))))))) ⟨fun _ _ => rfl, fun _ _ => rfl, fun _ _ => rfl, fun _ _ => rfl, fun _ _ => rfl, fun _ _ => rfl, fun _ _ => rfl, trivial⟩ FRef17.sz35 (EffO.keep PIn.nil) fun w30 h30 => ?_
   simp only [zca, zna, zsz, zss] at h30
   refine Plan.nil (k29 _ _ ?_); clear k29
   refine W.ret (thenR_ret (finR_ret ?_))
   have h31 := St.pickT (C := [_, _, _, _, _, _, _, _, _, _, _, _, _, _, _]) h30 [] (by decide)
   simp only [pick, zfc, zfn, zgz, zgs, zca, zna] at h31
   subst r
   refine RetOk.mk (.agg h30 rfl (.cons 1 rfl (.cons 2 rfl (.cons 3 rfl (.cons 4 rfl (.cons 5 rfl (.cons 6 rfl (.cons 7 rfl .nil))))))) FRef17.agg35 .nil) ?_
   exact ⟨rfl, h31⟩
  ·
   replace hR := ifF hR hc28
   refine W.condF (congrArg Value.bool (decide_eq_false hc28)) ?_
   refine W.skip ?_
   refine k26 _ _ ?_; clear k26
   refine W.seq_k fun _ k32 => ?_
   refine W.regionX (B := B) (w0 := w0) (L := L) FRef17.mixed [⟨13, 9, 35, [(32, fun q => VU .u8 ((fun _ => 0#8) q)), (16, fun q => VU .u8 ((fun _ => 0#8) q)), (64, fun q => VU .u8 ((fun _ => 0#8) q)), (32, fun q => VU .u8 ((fun _ => 0#8) q)), (32, fun q => VU .u8 ((fun _ => 0#8) q)), (1, fun _ => VU .u32 (0#32)), (1, fun _ => VN 0)]⟩] [(0, true), (1, true), (2, true), (3, true), (5, true), (6, true), (7, true), (8, true), (9, true), (10, true), (11, true)] [[(4, false), (12, true)]] [(14, false)] (by kernel_rfl) (by kernel_rfl) (.cons FRef17.z35 .nil) ?_
   have h33 := h25.drew
   refine Plan.fieldAddr 32 FRef17.fld25_1 rfl rfl <| Plan.loadA1 h33 14 rfl rfl rfl FRef17.agg23 <| Plan.fieldAddr0 FRef17.fld28_0 rfl rfl <| Plan.loadA1 h33 8 rfl rfl rfl FRef17.agg23 <| Plan.fieldAddr 32 FRef17.fld25_1 rfl rfl <| Plan.loadA1 h33 14 rfl rfl rfl FRef17.agg23 <| Plan.fieldAddr 32 FRef17.fld25_1 rfl rfl <| Plan.loadA1 h33 12 rfl rfl rfl FRef17.agg23 ?_
   refine Plan.fieldAddr 32 FRef17.fld28_1 rfl rfl <| Plan.load0 h33 9 rfl rfl rfl (by omega) FRef17.sc26 ?_
   refine Plan.buildP (ps := [(32, fun q => VU .u8 (ownPub2 q)), (32, fun q => VU .u8 (oncePub4 q)), (1, fun _ => VU .u32 offerPrekey6)]) FRef17.pl33 (by decide) FRef17.z33 rfl rfl (.agg [] [(32, fun q => VU .u8 ((fun _ => 0#8) q))] [(32, fun q => VU .u8 ((fun _ => 0#8) q)), (1, fun _ => VU .u32 (0#32))] [(32, fun q => VU .u8 (ownPub2 q))] rfl rfl (.agg [(32, fun q => VU .u8 (ownPub2 q))] [(32, fun q => VU .u8 ((fun _ => 0#8) q))] [(1, fun _ => VU .u32 (0#32))] [(32, fun q => VU .u8 (oncePub4 q))] rfl rfl (.one [(32, fun q => VU .u8 (ownPub2 q)), (32, fun q => VU .u8 (oncePub4 q))] [] (fun _ => VU .u32 (0#32)) rfl rfl .nil))) ?_
   refine Plan.nil ⟨[_, _, _, _, _, _, _, _, _, _, _, _, _, _, _], h33, (PIn.cons 9 rfl (PIn.cons 12 rfl (PIn.cons 14 rfl (PIn.cons 8 rfl (PIn.cons 14 rfl PIn.nil))))), ?_⟩
   refine PX.step fun C34 z34 w34 h34 => ?_
   simp only [zca, zna] at h34
   obtain ⟨x_36, hr35, hR⟩ := hR
   refine Plan.call (vs := [AG [(32, fun q => VU .u8 (ownPub2 q))], AG [(32, fun q => VU .u8 (offerIdentity5 q))]]) rfl FRef17.call13 rfl (letheref17_Bind_ok  hr35 h34) ?_
   rintro _ w37 ⟨rfl, h37⟩
   refine ⟨_, rfl, .inl ⟨PIn.keep (PIn.cons 9 rfl (PIn.cons 12 rfl (PIn.cons 14 rfl (PIn.cons 8 rfl (PIn.cons 14 rfl PIn.nil))))) h37, ?_⟩⟩
   refine Plan.buildP (ps := [(32, fun q => VU .u8 ((fun _ => 0#8) q)), (16, fun q => VU .u8 ((fun _ => 0#8) q)), (64, fun q => VU .u8 (x_36 q)), (32, fun q => VU .u8 (ownPub2 q)), (32, fun q => VU .u8 (oncePub4 q)), (1, fun _ => VU .u32 offerPrekey6), (1, fun _ => VN 0)]) FRef17.pl35 (by decide) FRef17.z35 rfl rfl (.agg [(32, fun q => VU .u8 ((fun _ => 0#8) q)), (16, fun q => VU .u8 ((fun _ => 0#8) q))] [(64, fun q => VU .u8 ((fun _ => 0#8) q))] [(32, fun q => VU .u8 ((fun _ => 0#8) q)), (32, fun q => VU .u8 ((fun _ => 0#8) q)), (1, fun _ => VU .u32 (0#32)), (1, fun _ => VN 0)] [(64, fun q => VU .u8 (x_36 q))] rfl rfl (.agg [(32, fun q => VU .u8 ((fun _ => 0#8) q)), (16, fun q => VU .u8 ((fun _ => 0#8) q)), (64, fun q => VU .u8 (x_36 q))] [(32, fun q => VU .u8 ((fun _ => 0#8) q)), (32, fun q => VU .u8 ((fun _ => 0#8) q)), (1, fun _ => VU .u32 (0#32))] [(1, fun _ => VN 0)] [(32, fun q => VU .u8 (ownPub2 q)), (32, fun q => VU .u8 (oncePub4 q)), (1, fun _ => VU .u32 offerPrekey6)] rfl rfl .nil)) ?_
   refine Plan.nil ⟨[_, _, _, _, _, _, _, _, _, _, _, _, _, _, _], h37, (PIn.cons 9 rfl (PIn.cons 12 rfl (PIn.cons 14 rfl (PIn.cons 8 rfl (PIn.cons 14 rfl PIn.nil))))), ?_⟩
   refine PX.done (KE.step fun b38_13 => (KE.fin fun w38 h38 => ?_))
   simp only [rngs, Nat.zero_add, Nat.reduceAdd, zca, zna] at h38
   refine Plan.storeP (ps := [(32, fun q => VU .u8 ((fun _ => 0#8) q)), (16, fun q => VU .u8 ((fun _ => 0#8) q)), (64, fun q => VU .u8 (x_36 q)), (32, fun q => VU .u8 (ownPub2 q)), (32, fun q => VU .u8 (oncePub4 q)), (1, fun _ => VU .u32 offerPrekey6), (1, fun _ => VN 0)]) h38 rfl rfl rfl (.cons 15 rfl (.cons 16 rfl (.cons 17 rfl (.cons 18 rfl (.cons 19 rfl (.cons 20 rfl (.cons 21 rfl .nil))))))) ⟨fun _ _ => rfl, fun _ _ => rfl, fun _ _ => rfl, fun _ _ => rfl, fun _ _ => rfl, fun _ _ => rfl, fun _ _ => rfl, trivial⟩ FRef17.sz35 (EffO.wait rfl) fun w39 h39 => ?_
   simp only [zca, zna, zsz, zss] at h39
   refine Plan.nil (k32 _ _ ?_); clear k32
   refine W.seq_k fun _ k40 => W.regionT [(0, true), (1, true), (2, true), (3, true), (4, true), (5, true), (6, false), (7, true), (8, true), (9, true), (10, true), (11, false), (12, true), (13, false)] (by kernel_rfl) ?_
   refine Plan.idxArrO (j := 0) (o' := 0 + (0 * 32)) FRef17.arr83 rfl rfl rfl (by omega) (by omega) <| Plan.loadSub (m' := 32) h39 0 (0 * 32) rfl rfl rfl rfl (by omega) FRef17.agg23 <| Plan.idxArrO (j := 1) (o' := 0 + (1 * 32)) FRef17.arr83 rfl rfl rfl (by omega) (by omega) <| Plan.loadSub (m' := 32) h39 0 (1 * 32) rfl rfl rfl rfl (by omega) FRef17.agg23 <| Plan.idxArrO (j := 2) (o' := 0 + (2 * 32)) FRef17.arr83 rfl rfl rfl (by omega) (by omega) <| Plan.loadSub (m' := 32) h39 0 (2 * 32) rfl rfl rfl rfl (by omega) FRef17.agg23 ?_
   obtain ⟨x_42, x_43, hr41, hR⟩ := hR
   refine Plan.call (vs := [AG [(32, fun q => VU .u8 ((fun q => x_21 ((0 * 32) + q)) q))], AG [(32, fun q => VU .u8 ((fun q => x_21 ((1 * 32) + q)) q))], AG [(32, fun q => VU .u8 ((fun q => x_21 ((2 * 32) + q)) q))]]) rfl FRef17.call34 rfl (letheref17_Made_ok (iG4 := iG4 + 22) hG4 (iG5 := iG5 + 22) hG5 hr41 h39) ?_
   rintro _ w44 ⟨rfl, h44⟩
   refine ⟨_, rfl, .inr ⟨rfl, ?_⟩⟩
   refine Plan.move_tuple rfl rfl <| Plan.extract_agg rfl rfl rfl <| Plan.extract_agg rfl rfl rfl <| Plan.fieldAddr0 FRef17.fld35_0 rfl rfl ?_
   refine Plan.storeA (f' := fun q => VU .u8 (x_42 q)) h44 15 rfl rfl rfl rfl (fun _ _ => rfl) FRef17.sz23 rfl fun w45 h45 => ?_
   simp only [zca, zna, zsz, zss] at h45
   refine Plan.fieldAddr 32 FRef17.fld35_1 rfl rfl ?_
   refine Plan.storeA (f' := fun q => VU .u8 (x_43 q)) h45 16 rfl rfl rfl rfl (fun _ _ => rfl) FRef17.sz30 rfl fun w46 h46 => ?_
   simp only [zca, zna, zsz, zss] at h46
   refine Plan.nil (k40 _ _ ?_); clear k40
   refine W.seq_k fun _ k47 => W.regionT [(0, true), (1, false)] (by kernel_rfl) ?_
   refine Plan.loadA h46 rfl rfl (.cons 15 rfl (.cons 16 rfl (.cons 17 rfl (.cons 18 rfl (.cons 19 rfl (.cons 20 rfl (.cons 21 rfl .nil))))))) FRef17.agg35 ?_
   refine Plan.storeP (ps := [(32, fun q => VU .u8 (x_42 q)), (16, fun q => VU .u8 (x_43 q)), (64, fun q => VU .u8 (x_36 q)), (32, fun q => VU .u8 (ownPub2 q)), (32, fun q => VU .u8 (oncePub4 q)), (1, fun _ => VU .u32 offerPrekey6), (1, fun _ => VN 0)]) h46 rfl rfl rfl (.cons 1 rfl (.cons 2 rfl (.cons 3 rfl (.cons 4 rfl (.cons 5 rfl (.cons 6 rfl (.cons 7 rfl .nil))))))) ⟨fun _ _ => rfl, fun _ _ => rfl, fun _ _ => rfl, fun _ _ => rfl, fun _ _ => rfl, fun _ _ => rfl, fun _ _ => rfl, trivial⟩ FRef17.sz35 (EffO.wait rfl) fun w48 h48 => ?_
   simp only [zca, zna, zsz, zss] at h48
   refine Plan.nil (k47 _ _ ?_); clear k47
   refine W.ret (finR_ret ?_)
   have h49 := St.pickT (C := [_, _, _, _, _, _, _, _, _, _, _, _, _, _, _, _, _, _, _, _, _, _]) h48 [] (by decide)
   simp only [pick, zfc, zfn, zgz, zgs, zca, zna] at h49
   subst r
   refine RetOk.mk (.agg h48 rfl (.cons 1 rfl (.cons 2 rfl (.cons 3 rfl (.cons 4 rfl (.cons 5 rfl (.cons 6 rfl (.cons 7 rfl .nil))))))) FRef17.agg35 .nil) ?_
   exact ⟨rfl, h49⟩
theorem letheref17_Meet_ok {B : Nat} {w0 w : World} {L : List Rg} {iG4 : Nat} (hG4 : L[iG4]? = some ⟨some 4, 0, 8, fun q => VU .u64 (H64 q), false⟩) {iG5 : Nat} (hG5 : L[iG5]? = some ⟨some 5, 0, 64, fun q => VU .u64 (K64 q), false⟩) {ownPriv1 : Nat → BitVec 8} {ownPub2 : Nat → BitVec 8} {prekeyPriv3 : Nat → BitVec 8} {prekeyPub4 : Nat → BitVec 8} {helloIdentity5 : Nat → BitVec 8} {helloOnce6 : Nat → BitVec 8} {helloPrekey7 : BitVec 32} {r : ((Nat → BitVec 8) × (Nat → BitVec 8) × (Nat → BitVec 8) × (Nat → BitVec 8) × (Nat → BitVec 8) × (BitVec 32) × Nat)} (hR : letheref17_Meet ownPriv1 ownPub2 prekeyPriv3 prekeyPub4 helloIdentity5 helloOnce6 helloPrekey7 r) (HST : St B w0 (L) w) :
  Calls Tryd.prog 19 #[AG [(32, fun q => VU .u8 (ownPriv1 q)), (32, fun q => VU .u8 (ownPub2 q))], AG [(32, fun q => VU .u8 (prekeyPriv3 q)), (32, fun q => VU .u8 (prekeyPub4 q))], AG [(32, fun q => VU .u8 (helloIdentity5 q)), (32, fun q => VU .u8 (helloOnce6 q)), (1, fun _ => VU .u32 helloPrekey7)]] w fun e w' => e = .returned (AG [(32, fun q => VU .u8 (r.1 q)), (16, fun q => VU .u8 (r.2.1 q)), (64, fun q => VU .u8 (r.2.2.1 q)), (32, fun q => VU .u8 (r.2.2.2.1 q)), (32, fun q => VU .u8 (r.2.2.2.2.1 q)), (1, fun _ => VU .u32 r.2.2.2.2.2.1), (1, fun _ => VN r.2.2.2.2.2.2)]) ∧ St B w0 (L) w' := by
 refine W.enter 55 Tryd.func19 rfl rfl rfl ?_
 unfold letheref17_Meet at hR
 refine W.seq_k fun _ k8 => W.regionT [(0, false), (1, false), (2, false), (3, false)] (by kernel_rfl) ?_
 refine Plan.boxA HST rfl rfl PIn.nil fun b9 w9 hb9 h9 => ?_
 simp only [rngs, Nat.zero_add, Nat.reduceAdd, zca, zna] at h9
 refine Plan.boxA h9 rfl rfl PIn.nil fun b10 w10 hb10 h10 => ?_
 simp only [rngs, Nat.zero_add, Nat.reduceAdd, zca, zna] at h10
 refine Plan.boxA h10 rfl rfl PIn.nil fun b11 w11 hb11 h11 => ?_
 simp only [rngs, Nat.zero_add, Nat.reduceAdd, zca, zna] at h11
 refine Plan.alloc h11 rfl FRef17.z35 PIn.nil fun b12 w12 hb12 h12 => ?_
 simp only [rngs, Nat.zero_add, Nat.reduceAdd, zca, zna] at h12
 refine Plan.nil (k8 _ _ ?_); clear k8
 refine W.seq_k fun _ k13 => W.seq_k fun _ k14 => ?_
 refine W.regionT [(0, true), (1, true), (2, true)] (by kernel_rfl) ?_
 refine Plan.fieldAddr 64 FRef17.fld33_2 rfl rfl <| Plan.load0 h12 9 rfl rfl rfl (by omega) FRef17.sc26 <| Plan.cmpP (a := (helloPrekey7.toNat : Int)) (b := ((0#32).toNat : Int)) (p := helloPrekey7 = 0#32) rfl rfl rfl rfl icmp_eqU <| Plan.nil (k14 _ _ ?_); clear k14
 by_cases hc15 : helloPrekey7 = 0#32
 ·
  replace hR := ifT hR hc15
  refine W.condT (congrArg Value.bool (decide_eq_true hc15)) ?_
  refine W.seq_k fun _ k16 => W.regionT [(0, true), (1, false)] (by kernel_rfl) ?_
  refine Plan.buildP (ps := [(32, fun q => VU .u8 ((fun _ => 0#8) q)), (16, fun q => VU .u8 ((fun _ => 0#8) q)), (64, fun q => VU .u8 ((fun _ => 0#8) q)), (32, fun q => VU .u8 ((fun _ => 0#8) q)), (32, fun q => VU .u8 ((fun _ => 0#8) q)), (1, fun _ => VU .u32 (0#32)), (1, fun _ => VN 170)]) FRef17.pl35 (by decide) FRef17.z35 rfl rfl (.one [(32, fun q => VU .u8 ((fun _ => 0#8) q)), (16, fun q => VU .u8 ((fun _ => 0#8) q)), (64, fun q => VU .u8 ((fun _ => 0#8) q)), (32, fun q => VU .u8 ((fun _ => 0#8) q)), (32, fun q => VU .u8 ((fun _ => 0#8) q)), (1, fun _ => VU .u32 (0#32))] [] (fun _ => VN 0) rfl rfl .nil) ?_
  refine Plan.storeP (ps := [(32, fun q => VU .u8 ((fun _ => 0#8) q)), (16, fun q => VU .u8 ((fun _ => 0#8) q)), (64, fun q => VU .u8 ((fun _ => 0#8) q)), (32, fun q => VU .u8 ((fun _ => 0#8) q)), (32, fun q => VU .u8 ((fun _ => 0#8) q)), (1, fun _ => VU .u32 (0#32)), (1, fun _ => VN 170)]) h12 rfl rfl rfl (.cons 0 rfl (.cons 1 rfl (.cons 2 rfl (.cons 3 rfl (.cons 4 rfl (.cons 5 rfl (.cons 6 rfl .nil))))))) ⟨fun _ _ => rfl, fun _ _ => rfl, fun _ _ => rfl, fun _ _ => rfl, fun _ _ => rfl, fun _ _ => rfl, fun _ _ => rfl, trivial⟩ FRef17.sz35 (EffO.keep PIn.nil) fun w17 h17 => ?_
  simp only [zca, zna, zsz, zss] at h17
  refine Plan.nil (k16 _ _ ?_); clear k16
  refine W.ret (thenR_ret (finR_ret ?_))
  have h18 := St.pickT (C := [_, _, _, _, _, _, _, _, _, _, _, _, _, _]) h17 [] (by decide)
  simp only [pick, zfc, zfn, zgz, zgs, zca, zna] at h18
  subst r
  refine RetOk.mk (.agg h17 rfl (.cons 0 rfl (.cons 1 rfl (.cons 2 rfl (.cons 3 rfl (.cons 4 rfl (.cons 5 rfl (.cons 6 rfl .nil))))))) FRef17.agg35 .nil) ?_
  exact ⟨rfl, h18⟩
 ·
  replace hR := ifF hR hc15
  refine W.condF (congrArg Value.bool (decide_eq_false hc15)) ?_
  refine W.skip ?_
  refine k13 _ _ ?_; clear k13
  refine W.seq_k fun _ k19 => W.regionT [(0, true), (1, true), (2, true), (3, true), (4, true), (5, true), (6, true), (7, true), (8, true), (9, true), (10, true), (11, true), (12, true), (13, true), (14, false), (15, true), (16, true), (17, true), (18, false), (19, false), (20, true)] (by kernel_rfl) ?_
  refine Plan.fieldAddr0 FRef17.fld25_0 rfl rfl <| Plan.loadA1 h12 10 rfl rfl rfl FRef17.agg23 <| Plan.fieldAddr0 FRef17.fld25_0 rfl rfl <| Plan.loadA1 h12 12 rfl rfl rfl FRef17.agg23 <| Plan.fieldAddr0 FRef17.fld25_0 rfl rfl <| Plan.loadA1 h12 10 rfl rfl rfl FRef17.agg23 ?_
  refine Plan.buildAA (V := fun x => VU .u8 x) (sz := 32) [prekeyPriv3, ownPriv1, prekeyPriv3] (0#8) FRef17.arr83 (by decide) FRef17.z83 rfl rfl rfl ?_
  refine Plan.fieldAddr0 FRef17.fld33_0 rfl rfl <| Plan.loadA1 h12 7 rfl rfl rfl FRef17.agg23 <| Plan.fieldAddr 32 FRef17.fld33_1 rfl rfl <| Plan.loadA1 h12 8 rfl rfl rfl FRef17.agg23 <| Plan.fieldAddr 32 FRef17.fld33_1 rfl rfl <| Plan.loadA1 h12 8 rfl rfl rfl FRef17.agg23 ?_
  refine Plan.buildAA (V := fun x => VU .u8 x) (sz := 32) [helloIdentity5, helloOnce6, helloOnce6] (0#8) FRef17.arr83 (by decide) FRef17.z83 rfl rfl rfl ?_
  obtain ⟨x_21, x_22, hr20, hR⟩ := hR
  refine Plan.call (vs := [AG [(96, fun q => VU .u8 ((arrs 32 (0#8) [prekeyPriv3, ownPriv1, prekeyPriv3]) q))], AG [(96, fun q => VU .u8 ((arrs 32 (0#8) [helloIdentity5, helloOnce6, helloOnce6]) q))]]) rfl FRef17.call33 rfl (letheref17_three_ok  hr20 h12) ?_
  rintro _ w23 ⟨rfl, h23⟩
  refine ⟨_, rfl, .inl ⟨PIn.keep (PIn.cons 8 rfl (PIn.cons 8 rfl (PIn.cons 7 rfl (PIn.cons 10 rfl (PIn.cons 12 rfl (PIn.cons 10 rfl PIn.nil)))))) h23, ?_⟩⟩
  refine Plan.move_tuple rfl rfl <| Plan.extract_agg rfl rfl rfl <| Plan.extract_int rfl rfl rfl ?_
  refine Plan.alloc h23 rfl FRef17.z83 (PIn.cons 8 rfl (PIn.cons 8 rfl (PIn.cons 7 rfl (PIn.cons 10 rfl (PIn.cons 12 rfl (PIn.cons 10 rfl PIn.nil)))))) fun b24 w24 hb24 h24 => ?_
  simp only [rngs, Nat.zero_add, Nat.reduceAdd, zca, zna] at h24
  refine Plan.storeA (f' := fun q => VU .u8 (x_21 q)) h24 0 rfl rfl rfl rfl (fun _ _ => rfl) FRef17.sz83 rfl fun w25 h25 => ?_
  simp only [zca, zna, zsz, zss] at h25
  refine Plan.assign_int rfl rfl <| Plan.nil (k19 _ _ ?_); clear k19
  refine W.seq_k fun _ k26 => W.seq_k fun _ k27 => ?_
  refine W.regionT [(0, true), (1, true)] (by kernel_rfl) ?_
  refine Plan.move_int rfl rfl <| Plan.cmpP (a := (((x_22 : Nat) : Int) : Int)) (b := (0 : Int)) (p := x_22 ≠ 0) rfl rfl rfl rfl icmp_neN <| Plan.nil (k27 _ _ ?_); clear k27
  by_cases hc28 : x_22 ≠ 0
  ·
   replace hR := ifT hR hc28
   refine W.condT (congrArg Value.bool (decide_eq_true hc28)) ?_
   refine W.seq_k fun _ k29 => W.regionT [(0, true), (1, true), (2, false)] (by kernel_rfl) ?_
   refine Plan.move_int rfl rfl ?_
   refine Plan.buildP (ps := [(32, fun q => VU .u8 ((fun _ => 0#8) q)), (16, fun q => VU .u8 ((fun _ => 0#8) q)), (64, fun q => VU .u8 ((fun _ => 0#8) q)), (32, fun q => VU .u8 ((fun _ => 0#8) q)), (32, fun q => VU .u8 ((fun _ => 0#8) q)), (1, fun _ => VU .u32 (0#32)), (1, fun _ => VN x_22)]) FRef17.pl35 (by decide) FRef17.z35 rfl rfl (.one [(32, fun q => VU .u8 ((fun _ => 0#8) q)), (16, fun q => VU .u8 ((fun _ => 0#8) q)), (64, fun q => VU .u8 ((fun _ => 0#8) q)), (32, fun q => VU .u8 ((fun _ => 0#8) q)), (32, fun q => VU .u8 ((fun _ => 0#8) q)), (1, fun _ => VU .u32 (0#32))] [] (fun _ => VN 0) rfl rfl .nil) ?_
   refine Plan.storeP (ps := [(32, fun q => VU .u8 ((fun _ => 0#8) q)), (16, fun q => VU .u8 ((fun _ => 0#8) q)), (64, fun q => VU .u8 ((fun _ => 0#8) q)), (32, fun q => VU .u8 ((fun _ => 0#8) q)), (32, fun q => VU .u8 ((fun _ => 0#8) q)), (1, fun _ => VU .u32 (0#32)), (1, fun _ => VN x_22)]) h25 rfl rfl rfl (.cons 1 rfl (.cons 2 rfl (.cons 3 rfl (.cons 4 rfl (.cons 5 rfl (.cons 6 rfl (.cons 7 rfl .nil))))))) ⟨fun _ _ => rfl, fun _ _ => rfl, fun _ _ => rfl, fun _ _ => rfl, fun _ _ => rfl, fun _ _ => rfl, fun _ _ => rfl, trivial⟩ FRef17.sz35 (EffO.keep PIn.nil) fun w30 h30 => ?_
   simp only [zca, zna, zsz, zss] at h30
   refine Plan.nil (k29 _ _ ?_); clear k29
   refine W.ret (thenR_ret (finR_ret ?_))
   have h31 := St.pickT (C := [_, _, _, _, _, _, _, _, _, _, _, _, _, _, _]) h30 [] (by decide)
   simp only [pick, zfc, zfn, zgz, zgs, zca, zna] at h31
   subst r
   refine RetOk.mk (.agg h30 rfl (.cons 1 rfl (.cons 2 rfl (.cons 3 rfl (.cons 4 rfl (.cons 5 rfl (.cons 6 rfl (.cons 7 rfl .nil))))))) FRef17.agg35 .nil) ?_
   exact ⟨rfl, h31⟩
  ·
   replace hR := ifF hR hc28
   refine W.condF (congrArg Value.bool (decide_eq_false hc28)) ?_
   refine W.skip ?_
   refine k26 _ _ ?_; clear k26
   refine W.seq_k fun _ k32 => W.regionT [(0, true), (1, true), (2, true), (3, true), (4, false), (5, true), (6, false), (7, false)] (by kernel_rfl) ?_
   refine Plan.fieldAddr0 FRef17.fld33_0 rfl rfl <| Plan.loadA1 h25 8 rfl rfl rfl FRef17.agg23 <| Plan.fieldAddr 32 FRef17.fld25_1 rfl rfl <| Plan.loadA1 h25 14 rfl rfl rfl FRef17.agg23 ?_
   obtain ⟨x_34, hr33, hR⟩ := hR
   refine Plan.call (vs := [AG [(32, fun q => VU .u8 (helloIdentity5 q))], AG [(32, fun q => VU .u8 (ownPub2 q))]]) rfl FRef17.call13 rfl (letheref17_Bind_ok  hr33 h25) ?_
   rintro _ w35 ⟨rfl, h35⟩
   refine ⟨_, rfl, .inr ⟨rfl, ?_⟩⟩
   refine Plan.buildP (ps := [(32, fun q => VU .u8 ((fun _ => 0#8) q)), (16, fun q => VU .u8 ((fun _ => 0#8) q)), (64, fun q => VU .u8 (x_34 q)), (32, fun q => VU .u8 ((fun _ => 0#8) q)), (32, fun q => VU .u8 ((fun _ => 0#8) q)), (1, fun _ => VU .u32 (0#32)), (1, fun _ => VN 0)]) FRef17.pl35 (by decide) FRef17.z35 rfl rfl (.agg [(32, fun q => VU .u8 ((fun _ => 0#8) q)), (16, fun q => VU .u8 ((fun _ => 0#8) q))] [(64, fun q => VU .u8 ((fun _ => 0#8) q))] [(32, fun q => VU .u8 ((fun _ => 0#8) q)), (32, fun q => VU .u8 ((fun _ => 0#8) q)), (1, fun _ => VU .u32 (0#32)), (1, fun _ => VN 0)] [(64, fun q => VU .u8 (x_34 q))] rfl rfl .nil) ?_
   refine Plan.alloc h35 rfl FRef17.z35 PIn.nil fun b36 w36 hb36 h36 => ?_
   simp only [rngs, Nat.zero_add, Nat.reduceAdd, zca, zna] at h36
   refine Plan.storeP (ps := [(32, fun q => VU .u8 ((fun _ => 0#8) q)), (16, fun q => VU .u8 ((fun _ => 0#8) q)), (64, fun q => VU .u8 (x_34 q)), (32, fun q => VU .u8 ((fun _ => 0#8) q)), (32, fun q => VU .u8 ((fun _ => 0#8) q)), (1, fun _ => VU .u32 (0#32)), (1, fun _ => VN 0)]) h36 rfl rfl rfl (.cons 0 rfl (.cons 1 rfl (.cons 2 rfl (.cons 3 rfl (.cons 4 rfl (.cons 5 rfl (.cons 6 rfl .nil))))))) ⟨fun _ _ => rfl, fun _ _ => rfl, fun _ _ => rfl, fun _ _ => rfl, fun _ _ => rfl, fun _ _ => rfl, fun _ _ => rfl, trivial⟩ FRef17.sz35 (EffO.keep PIn.nil) fun w37 h37 => ?_
   simp only [zca, zna, zsz, zss] at h37
   refine Plan.nil (k32 _ _ ?_); clear k32
   refine W.seq_k fun _ k38 => W.regionT [(0, true), (1, true), (2, true), (3, true), (4, true), (5, true), (6, false), (7, true), (8, true), (9, true), (10, true), (11, false), (12, true), (13, false)] (by kernel_rfl) ?_
   refine Plan.idxArrO (j := 0) (o' := 0 + (0 * 32)) FRef17.arr83 rfl rfl rfl (by omega) (by omega) <| Plan.loadSub (m' := 32) h37 7 (0 * 32) rfl rfl rfl rfl (by omega) FRef17.agg23 <| Plan.idxArrO (j := 1) (o' := 0 + (1 * 32)) FRef17.arr83 rfl rfl rfl (by omega) (by omega) <| Plan.loadSub (m' := 32) h37 7 (1 * 32) rfl rfl rfl rfl (by omega) FRef17.agg23 <| Plan.idxArrO (j := 2) (o' := 0 + (2 * 32)) FRef17.arr83 rfl rfl rfl (by omega) (by omega) <| Plan.loadSub (m' := 32) h37 7 (2 * 32) rfl rfl rfl rfl (by omega) FRef17.agg23 ?_
   obtain ⟨x_40, x_41, hr39, hR⟩ := hR
   refine Plan.call (vs := [AG [(32, fun q => VU .u8 ((fun q => x_21 ((0 * 32) + q)) q))], AG [(32, fun q => VU .u8 ((fun q => x_21 ((1 * 32) + q)) q))], AG [(32, fun q => VU .u8 ((fun q => x_21 ((2 * 32) + q)) q))]]) rfl FRef17.call34 rfl (letheref17_Made_ok (iG4 := iG4 + 22) hG4 (iG5 := iG5 + 22) hG5 hr39 h37) ?_
   rintro _ w42 ⟨rfl, h42⟩
   refine ⟨_, rfl, .inr ⟨rfl, ?_⟩⟩
   refine Plan.move_tuple rfl rfl <| Plan.extract_agg rfl rfl rfl <| Plan.extract_agg rfl rfl rfl <| Plan.fieldAddr0 FRef17.fld35_0 rfl rfl ?_
   refine Plan.storeA (f' := fun q => VU .u8 (x_40 q)) h42 0 rfl rfl rfl rfl (fun _ _ => rfl) FRef17.sz23 rfl fun w43 h43 => ?_
   simp only [zca, zna, zsz, zss] at h43
   refine Plan.fieldAddr 32 FRef17.fld35_1 rfl rfl ?_
   refine Plan.storeA (f' := fun q => VU .u8 (x_41 q)) h43 1 rfl rfl rfl rfl (fun _ _ => rfl) FRef17.sz30 rfl fun w44 h44 => ?_
   simp only [zca, zna, zsz, zss] at h44
   refine Plan.nil (k38 _ _ ?_); clear k38
   refine W.seq_k fun _ k45 => W.regionT [(0, true), (1, false)] (by kernel_rfl) ?_
   refine Plan.loadA h44 rfl rfl (.cons 0 rfl (.cons 1 rfl (.cons 2 rfl (.cons 3 rfl (.cons 4 rfl (.cons 5 rfl (.cons 6 rfl .nil))))))) FRef17.agg35 ?_
   refine Plan.storeP (ps := [(32, fun q => VU .u8 (x_40 q)), (16, fun q => VU .u8 (x_41 q)), (64, fun q => VU .u8 (x_34 q)), (32, fun q => VU .u8 ((fun _ => 0#8) q)), (32, fun q => VU .u8 ((fun _ => 0#8) q)), (1, fun _ => VU .u32 (0#32)), (1, fun _ => VN 0)]) h44 rfl rfl rfl (.cons 8 rfl (.cons 9 rfl (.cons 10 rfl (.cons 11 rfl (.cons 12 rfl (.cons 13 rfl (.cons 14 rfl .nil))))))) ⟨fun _ _ => rfl, fun _ _ => rfl, fun _ _ => rfl, fun _ _ => rfl, fun _ _ => rfl, fun _ _ => rfl, fun _ _ => rfl, trivial⟩ FRef17.sz35 (EffO.wait rfl) fun w46 h46 => ?_
   simp only [zca, zna, zsz, zss] at h46
   refine Plan.nil (k45 _ _ ?_); clear k45
   refine W.ret (finR_ret ?_)
   have h47 := St.pickT (C := [_, _, _, _, _, _, _, _, _, _, _, _, _, _, _, _, _, _, _, _, _, _]) h46 [] (by decide)
   simp only [pick, zfc, zfn, zgz, zgs, zca, zna] at h47
   subst r
   refine RetOk.mk (.agg h46 rfl (.cons 8 rfl (.cons 9 rfl (.cons 10 rfl (.cons 11 rfl (.cons 12 rfl (.cons 13 rfl (.cons 14 rfl .nil))))))) FRef17.agg35 .nil) ?_
   exact ⟨rfl, h47⟩
end Go.Proofs.YtjclppnbbpnfnaaDoor
