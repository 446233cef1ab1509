/-
 WALKS of the package's functions, printed by this session's own program (auto.py).
-/
import Derived.Test.YtjclppnbbpnfnaaDoorProg
import Derived.Test.YtjclppnbbpnfnaaDoorEb
import Derived.Test.YtjclppnbbpnfnaaDoorRRef07
import Derived.Test.YtjclppnbbpnfnaaDoorEls
namespace Go.Proofs.YtjclppnbbpnfnaaDoor
set_option linter.unusedSimpArgs false
set_option linter.unusedVariables false
set_option linter.unusedSectionVars false
set_option maxRecDepth 8000
set_option maxHeartbeats 1000000
open Go Go.LW
theorem FRef07.mixed : Tryd.prog.follows .mixedOrders = true := by kernel_rfl
theorem FRef07.agg23 : aggT Tryd.prog 23 32 = true := by kernel_rfl
theorem FRef07.z23 : zeroIs Tryd.prog 23 [(32, fun _ => VU .u8 0#8)] := zeroIs_agg (by kernel_rfl)
theorem FRef07.arr23 : arrB Tryd.prog 23 32 1 = true := by kernel_rfl
theorem FRef07.sc5 : scalarT Tryd.prog 5 = true := by kernel_rfl
theorem FRef07.sz5 : szT Tryd.prog 5 1 = true := by kernel_rfl
theorem FRef07.sz23 : szT Tryd.prog 23 32 = true := by kernel_rfl
theorem FRef07.some5 : (Tryd.prog.underlying 5).isSome = true := by kernel_rfl
theorem FRef07.u3 : Tryd.prog.underlying 3 = some (.int .i64) := by kernel_rfl
theorem FRef07.row23 : rowB Tryd.prog 23 = true := by kernel_rfl
theorem FRef07.arrI23 : arrIB Tryd.prog 23 32 .u8 = true := by kernel_rfl
theorem FRef07.sc3 : scalarT Tryd.prog 3 = true := by kernel_rfl
theorem FRef07.sz3 : szT Tryd.prog 3 1 = true := by kernel_rfl
theorem FRef07.call64 : callB Tryd.prog 64 = true := by kernel_rfl
theorem FRef07.z129 : zeroIs Tryd.prog 129 [(10, fun _ => .int .i64 0)] := zeroIs_agg (by kernel_rfl)
theorem FRef07.arr129 : arrB Tryd.prog 129 10 1 = true := by kernel_rfl
theorem FRef07.call67 : callB Tryd.prog 67 = true := by kernel_rfl
theorem FRef07.agg129 : aggT Tryd.prog 129 10 = true := by kernel_rfl
theorem FRef07.sz129 : szT Tryd.prog 129 10 = true := by kernel_rfl
theorem FRef07.call65 : callB Tryd.prog 65 = true := by kernel_rfl
theorem FRef07.call75 : callB Tryd.prog 75 = true := by kernel_rfl
theorem FRef07.call66 : callB Tryd.prog 66 = true := by kernel_rfl
theorem FRef07.call68 : callB Tryd.prog 68 = true := by kernel_rfl
theorem FRef07.call69 : callB Tryd.prog 69 = true := by kernel_rfl
theorem FRef07.z137 : zeroIs Tryd.prog 137 [(20, fun _ => .int .i64 0)] := zeroIs_agg (by kernel_rfl)
theorem FRef07.arr137 : arrB Tryd.prog 137 20 1 = true := by kernel_rfl
theorem FRef07.call70 : callB Tryd.prog 70 = true := by kernel_rfl
theorem FRef07.call72 : callB Tryd.prog 72 = true := by kernel_rfl
theorem FRef07.call71 : callB Tryd.prog 71 = true := by kernel_rfl
theorem FRef07.call59 : callB Tryd.prog 59 = true := by kernel_rfl
theorem letheref07_Clamp_ok {B : Nat} {w0 w : World} {L : List Rg} {k1 : Nat → BitVec 8} {r : (Nat → BitVec 8)} (hR : letheref07_Clamp k1 r) (HST : St B w0 (L) w) :
  Calls Tryd.prog 64 #[AG [(32, fun q => VU .u8 (k1 q))]] w fun e w' => e = .returned (AG [(32, fun q => VU .u8 (r q))]) ∧ St B w0 (L) w' := by
 refine W.enter 16 Tryd.func64 rfl rfl rfl ?_
 unfold letheref07_Clamp at hR
 refine W.seq_k fun _ k2 => W.regionT [(0, false), (1, false)] (by kernel_rfl) ?_
 refine Plan.boxA HST rfl rfl PIn.nil fun b3 w3 hb3 h3 => ?_
 simp only [rngs, Nat.zero_add, Nat.reduceAdd, zca, zna] at h3
 refine Plan.alloc h3 rfl FRef07.z23 PIn.nil fun b4 w4 hb4 h4 => ?_
 simp only [rngs, Nat.zero_add, Nat.reduceAdd, zca, zna] at h4
 refine Plan.nil (k2 _ _ ?_); clear k2
 refine W.seq_k fun _ k5 => W.regionT [(0, true), (1, true), (2, true), (3, true), (4, true), (5, true), (6, true), (7, false)] (by kernel_rfl) ?_
 refine Plan.idxArr1 (j := 0) FRef07.arr23 rfl rfl rfl (by omega) <| Plan.load1 (j := 0) h4 1 rfl rfl rfl (by omega) FRef07.sc5 <| Plan.idxArr1 (j := 0) FRef07.arr23 rfl rfl rfl (by omega) <| Plan.load1 (j := 0) h4 1 rfl rfl rfl (by omega) FRef07.sc5 <| Plan.remU .u8 (X := (k1 0)) (Y := 8#8) rfl rfl rfl (by decide) <| Plan.subU .u8 (X := (k1 0)) (Y := ((k1 0) % (8#8))) rfl rfl rfl <| Plan.idxArr1 (j := 0) FRef07.arr23 rfl rfl rfl (by omega) ?_
 refine Plan.storeU (j := 0) (X := ((k1 0) - ((k1 0) % (8#8)))) h4 1 rfl rfl rfl rfl (by omega) FRef07.sz5 rfl fun w6 h6 => ?_
 simp only [zca, zna, zsz, zss] at h6
 refine Plan.nil (k5 _ _ ?_); clear k5
 refine W.seq_k fun _ k7 => W.regionT [(0, true), (1, true), (2, true), (3, true), (4, true), (5, false)] (by kernel_rfl) ?_
 refine Plan.idxArr1 (j := 31) FRef07.arr23 rfl rfl rfl (by omega) <| Plan.load1 (j := 31) h6 1 rfl rfl rfl (by omega) FRef07.sc5 <| Plan.remU .u8 (X := ((upd k1 0 ((k1 0) - ((k1 0) % (8#8)))) 31)) (Y := 64#8) rfl rfl rfl (by decide) <| Plan.addU .u8 (X := (((upd k1 0 ((k1 0) - ((k1 0) % (8#8)))) 31) % (64#8))) (Y := 64#8) rfl rfl rfl <| Plan.idxArr1 (j := 31) FRef07.arr23 rfl rfl rfl (by omega) ?_
 refine Plan.storeU (j := 31) (X := ((((upd k1 0 ((k1 0) - ((k1 0) % (8#8)))) 31) % (64#8)) + (64#8))) h6 1 rfl rfl rfl rfl (by omega) FRef07.sz5 rfl fun w8 h8 => ?_
 simp only [zca, zna, zsz, zss] at h8
 refine Plan.nil (k7 _ _ ?_); clear k7
 refine W.seq_k fun _ k9 => W.regionT [(0, true), (1, false)] (by kernel_rfl) ?_
 refine Plan.loadA1 h8 1 rfl rfl rfl FRef07.agg23 ?_
 refine Plan.storeA (f' := fun q => VU .u8 ((upd (upd k1 0 ((k1 0) - ((k1 0) % (8#8)))) 31 ((((upd k1 0 ((k1 0) - ((k1 0) % (8#8)))) 31) % (64#8)) + (64#8))) q)) h8 0 rfl rfl rfl rfl (fun _ _ => rfl) FRef07.sz23 rfl fun w10 h10 => ?_
 simp only [zca, zna, zsz, zss] at h10
 refine Plan.nil (k9 _ _ ?_); clear k9
 refine W.ret (finR_ret ?_)
 have h11 := St.pickT (C := [_, _]) h10 [] (by decide)
 simp only [pick, zfc, zfn, zgz, zgs, zca, zna] at h11
 subst r
 refine RetOk.mk (.agg h10 rfl (.cons 0 rfl .nil) FRef07.agg23 .nil) ?_
 exact ⟨rfl, h11⟩
theorem letheref07_bit_ok {B : Nat} {w0 w : World} {L : List Rg} {k1 : Nat → BitVec 8} {i_2 : Int} {r : Nat} (hR : letheref07_bit k1 i_2 r) (HST : St B w0 (L) w) :
  Calls Tryd.prog 67 #[AG [(32, fun q => VU .u8 (k1 q))], .int .i64 i_2] w fun e w' => e = .returned (VN r) ∧ St B w0 (L) w' := by
 refine W.enter 14 Tryd.func67 rfl rfl rfl ?_
 unfold letheref07_bit at hR
 refine W.seq_k fun _ k3 => W.regionT [(0, false), (1, true)] (by kernel_rfl) ?_
 refine Plan.boxA HST rfl rfl PIn.nil fun b4 w4 hb4 h4 => ?_
 simp only [rngs, Nat.zero_add, Nat.reduceAdd, zca, zna] at h4
 refine Plan.assign_int rfl rfl <| Plan.nil (k3 _ _ ?_); clear k3
 refine W.seq_k fun _ k5 => W.regionT [(0, true), (1, true), (2, true), (3, true), (4, true), (5, true), (6, true), (7, true), (8, true), (9, true)] (by kernel_rfl) ?_
 refine Plan.move_int rfl rfl ?_
 obtain ⟨hc6, hR⟩ := hR
 refine Plan.quoIw (a := i_2) (b := 8) rfl rfl rfl (by omega) hc6 ?_
 obtain ⟨hc7, hR⟩ := hR
 refine Plan.idxArr1 (j := (i_2.tdiv 8).toNat) FRef07.arr23 rfl rfl (congrArg (Value.int .i64) (Int.toNat_of_nonneg hc7.1).symm) (by omega) <| Plan.load1 (j := (i_2.tdiv 8).toNat) h4 0 rfl rfl rfl (by omega) FRef07.sc5 <| Plan.convN (a := (k1 ((i_2.tdiv 8).toNat)).toNat) FRef07.u3 FRef07.some5 rfl rfl (Nat.lt_of_lt_of_le (k1 ((i_2.tdiv 8).toNat)).isLt (by decide)) <| Plan.move_int rfl rfl ?_
 have hb8 := tmod_bd i_2 (c := 8) (by decide)
 refine Plan.remI (a := i_2) (b := 8) rfl rfl rfl (by omega) ?_
 obtain ⟨hc9, hR⟩ := hR
 refine Plan.shrN (a := (k1 ((i_2.tdiv 8).toNat)).toNat) (c := (i_2.tmod 8).toNat) rfl rfl (congrArg (Value.int .i64) (Int.toNat_of_nonneg hc9).symm) (by omega) <| Plan.remN (a := (((k1 ((i_2.tdiv 8).toNat)).toNat) / 2 ^ ((i_2.tmod 8).toNat))) (b := 2) rfl rfl rfl (by omega) <| Plan.assign_int rfl rfl <| Plan.nil (k5 _ _ ?_); clear k5
 refine W.ret (finR_ret ?_)
 have h10 := St.pickT (C := [_]) h4 [] (by decide)
 simp only [pick, zfc, zfn, zgz, zgs, zca, zna] at h10
 subst r
 refine RetOk.mk (.tmp_int rfl .nil) ?_
 exact ⟨rfl, h10⟩
theorem letheref07_read_ok {B : Nat} {w0 w : World} {L : List Rg} {k1 : Nat → BitVec 8} {r : (Nat → Int)} (hR : letheref07_read k1 r) (HST : St B w0 (L) w) :
  Calls Tryd.prog 65 #[AG [(32, fun q => VU .u8 (k1 q))]] w fun e w' => e = .returned (AG [(10, fun q => .int .i64 (r q))]) ∧ St B w0 (L) w' := by
 refine W.enter 22 Tryd.func65 rfl rfl rfl ?_
 unfold letheref07_read at hR
 refine W.seq_k fun _ k2 => W.regionT [(0, false), (1, false)] (by kernel_rfl) ?_
 refine Plan.boxA HST rfl rfl PIn.nil fun b3 w3 hb3 h3 => ?_
 simp only [rngs, Nat.zero_add, Nat.reduceAdd, zca, zna] at h3
 refine Plan.alloc h3 rfl FRef07.z129 PIn.nil fun b4 w4 hb4 h4 => ?_
 simp only [rngs, Nat.zero_add, Nat.reduceAdd, zca, zna] at h4
 refine Plan.nil (k2 _ _ ?_); clear k2
 refine W.seq_k fun _ k5 => W.regionT [(0, false)] (by kernel_rfl) ?_
 refine Plan.alloc h4 rfl FRef07.z129 PIn.nil fun b6 w6 hb6 h6 => ?_
 simp only [rngs, Nat.zero_add, Nat.reduceAdd, zca, zna] at h6
 refine Plan.nil (k5 _ _ ?_); clear k5
 refine W.seq_k fun _ k7 => W.seq_k fun _ k8 => ?_
 refine W.regionT [(0, true)] (by kernel_rfl) ?_
 refine Plan.assign_int rfl rfl <| Plan.nil (k8 _ _ ?_); clear k8
 obtain ⟨m58, hI59, hR059⟩ := hR
 refine W.cutN (fun e w => ∃ y_m58 : Nat → Int, m58 = y_m58 ∧ EnvHas e [(2, .pointer (some ⟨b4, 0, none⟩)), (3, .pointer (some ⟨b6, 0, none⟩))] ∧ St B w0 (⟨some b6, 0, 10, fun q => .int .i64 (y_m58 q), true⟩ :: ⟨some b4, 0, 10, fun q => .int .i64 ((fun _ => (0 : Int)) q), true⟩ :: L) w) ?_ ?_
 ·
  refine W.block ?_
  refine W.iter hI59 (fun (s59 : (Int × (Nat → Int))) e w => EnvHas e [(1, .pointer (some ⟨b3, 0, none⟩)), (2, .pointer (some ⟨b4, 0, none⟩)), (3, .pointer (some ⟨b6, 0, none⟩)), (4, .int .i64 s59.1)] ∧ St B w0 (⟨some b6, 0, 10, fun q => .int .i64 (s59.2 q), true⟩ :: ⟨some b4, 0, 10, fun q => .int .i64 ((fun _ => (0 : Int)) q), true⟩ :: ⟨some b3, 0, 32, fun q => VU .u8 (k1 q), true⟩ :: L) w) ⟨(zer (zer (zer (zer zen)))), h6⟩ ?_
  rintro ⟨i_56, m57⟩ o59 hR hx59 ev60 wl60 ⟨he60, h60⟩
  obtain ⟨ev60, rfl⟩ := he60.open
  unfold letheref07_read_l0 at hR
  refine W.seq_k fun _ k61 => W.seq_k fun _ k62 => ?_
  refine W.regionT [(0, true), (1, true)] (by kernel_rfl) ?_
  refine Plan.move_int rfl rfl <| Plan.cmpP (a := (i_56 : Int)) (b := (0 : Int)) (p := 0 ≤ i_56) rfl rfl rfl rfl icmp_ge <| Plan.nil (k62 _ _ ?_); clear k62
  by_cases hc63 : 0 ≤ i_56
  ·
   replace hR := ifT hR hc63
   refine W.condT (congrArg Value.bool (decide_eq_true hc63)) ?_
   refine W.skip ?_
   refine k61 _ _ ?_; clear k61
   refine W.seq_k fun _ k64 => ?_
   refine W.block ?_
   refine W.regionD FRef07.mixed [(0, true), (1, true), (2, true), (3, true), (4, true), (5, true), (6, true), (7, true), (8, true), (9, false), (10, true), (11, true), (12, false)] (by kernel_rfl) ?_
   have h65 := h60.drew
   refine Plan.move_int rfl rfl ?_
   obtain ⟨hc66, hR⟩ := hR
   refine Plan.quoIw (a := i_56) (b := 26) rfl rfl rfl (by omega) hc66 <| Plan.move_int rfl rfl ?_
   obtain ⟨hc67, hR⟩ := hR
   refine Plan.quoIw (a := i_56) (b := 26) rfl rfl rfl (by omega) hc67 ?_
   obtain ⟨hc68, hR⟩ := hR
   refine Plan.idxArr1 (j := (i_56.tdiv 26).toNat) FRef07.arr129 rfl rfl (congrArg (Value.int .i64) (Int.toNat_of_nonneg hc68.1).symm) (by omega) <| Plan.load1 (j := (i_56.tdiv 26).toNat) h65 0 rfl rfl rfl (by omega) FRef07.sc3 ?_
   obtain ⟨hc69, hR⟩ := hR
   refine Plan.mulI (a := 2) (b := (m57 ((i_56.tdiv 26).toNat))) rfl rfl rfl (by omega) <| Plan.loadA1 h65 2 rfl rfl rfl FRef07.agg23 <| Plan.move_int rfl rfl ?_
   obtain ⟨x_71, hr70, hR⟩ := hR
   refine Plan.call (vs := [AG [(32, fun q => VU .u8 (k1 q))], .int .i64 i_56]) rfl FRef07.call67 rfl (letheref07_bit_ok  hr70 h65) ?_
   rintro _ w72 ⟨rfl, h72⟩
   refine ⟨_, rfl, .inl ⟨PIn.keep (PIn.cons 2 rfl (PIn.cons 0 rfl PIn.nil)) h72, ?_⟩⟩
   obtain ⟨hc73, hR⟩ := hR
   refine Plan.addI (a := (2 * (m57 ((i_56.tdiv 26).toNat)))) (b := ((x_71 : Nat) : Int)) rfl rfl rfl (by omega) ?_
   obtain ⟨hc74, hR⟩ := hR
   refine Plan.idxArr1 (j := (i_56.tdiv 26).toNat) FRef07.arr129 rfl rfl (congrArg (Value.int .i64) (Int.toNat_of_nonneg hc74.1).symm) (by omega) ?_
   refine Plan.storeI (j := (i_56.tdiv 26).toNat) (X := ((2 * (m57 ((i_56.tdiv 26).toNat))) + ((x_71 : Nat) : Int))) h72 0 rfl rfl rfl rfl (by omega) FRef07.sz3 rfl fun w75 h75 => ?_
   simp only [zca, zna, zsz, zss] at h75
   refine Plan.nil ?_
   refine blockR_norm ?_
   refine k64 _ _ ?_; clear k64
   refine W.regionT [(0, true), (1, true), (2, true)] (by kernel_rfl) ?_
   refine Plan.move_int rfl rfl ?_
   obtain ⟨hc76, hR⟩ := hR
   refine Plan.subI (a := i_56) (b := 1) rfl rfl rfl (by omega) <| Plan.assign_int rfl rfl <| Plan.nil ?_
   exact iterR_norm ⟨_, hR, (zer (zer (zer (zer zen)))), h75⟩
  ·
   replace hR := ifF hR hc63
   refine W.condF (congrArg Value.bool (decide_eq_false hc63)) ?_
   refine W.exit (thenR_exit (iterR_exit (blockR_here ?_)))
   have h77 := St.pickT (C := [_, _, _]) h60 [0, 1] (by decide)
   simp only [pick, zfc, zfn, zgz, zgs, zca, zna] at h77
   exact ⟨m57, (hx59 _ hR).symm, (zer (zer zen)), h77⟩
 ·
  rintro ev78 wl78 ⟨y_m58, hy78, he78, h78⟩
  obtain ⟨ev78, rfl⟩ := he78.open
  subst hy78
  replace hR := hR059
  refine k7 _ _ ?_; clear k7
  refine W.seq_k fun _ k79 => W.regionT [(0, true), (1, false)] (by kernel_rfl) ?_
  refine Plan.loadA1 h78 0 rfl rfl rfl FRef07.agg129 ?_
  refine Plan.storeA (f' := fun q => .int .i64 (m58 q)) h78 1 rfl rfl rfl rfl (fun _ _ => rfl) FRef07.sz129 rfl fun w80 h80 => ?_
  simp only [zca, zna, zsz, zss] at h80
  refine Plan.nil (k79 _ _ ?_); clear k79
  refine W.ret (finR_ret ?_)
  have h81 := St.pickT (C := [_, _]) h80 [] (by decide)
  simp only [pick, zfc, zfn, zgz, zgs, zca, zna] at h81
  subst r
  refine RetOk.mk (.agg h80 rfl (.cons 1 rfl .nil) FRef07.agg129 .nil) ?_
  exact ⟨rfl, h81⟩
theorem letheref07_carried_ok {B : Nat} {w0 w : World} {L : List Rg} {t1 : Nat → Int} {r : (Nat → Int)} (hR : letheref07_carried t1 r) (HST : St B w0 (L) w) :
  Calls Tryd.prog 75 #[AG [(10, fun q => .int .i64 (t1 q))]] w fun e w' => e = .returned (AG [(10, fun q => .int .i64 (r q))]) ∧ St B w0 (L) w' := by
 refine W.enter 30 Tryd.func75 rfl rfl rfl ?_
 unfold letheref07_carried at hR
 refine W.seq_k fun _ k2 => W.regionT [(0, false), (1, false)] (by kernel_rfl) ?_
 refine Plan.boxA HST rfl rfl PIn.nil fun b3 w3 hb3 h3 => ?_
 simp only [rngs, Nat.zero_add, Nat.reduceAdd, zca, zna] at h3
 refine Plan.alloc h3 rfl FRef07.z129 PIn.nil fun b4 w4 hb4 h4 => ?_
 simp only [rngs, Nat.zero_add, Nat.reduceAdd, zca, zna] at h4
 refine Plan.nil (k2 _ _ ?_); clear k2
 refine W.seq_k fun _ k5 => W.regionT [(0, true)] (by kernel_rfl) ?_
 refine Plan.assign_int rfl rfl <| Plan.nil (k5 _ _ ?_); clear k5
 refine W.seq_k fun _ k6 => ?_
 obtain ⟨m111, hI112, hR0112⟩ := hR
 refine W.cutN (fun e w => ∃ y_m111 : Nat → Int, m111 = y_m111 ∧ EnvHas e [(1, .pointer (some ⟨b3, 0, none⟩)), (2, .pointer (some ⟨b4, 0, none⟩))] ∧ St B w0 (⟨some b4, 0, 10, fun q => .int .i64 ((fun _ => (0 : Int)) q), true⟩ :: ⟨some b3, 0, 10, fun q => .int .i64 (y_m111 q), true⟩ :: L) w) ?_ ?_
 ·
  refine W.block ?_
  refine W.iter hI112 (fun (s112 : (Int × (Nat → Int))) e w => EnvHas e [(1, .pointer (some ⟨b3, 0, none⟩)), (2, .pointer (some ⟨b4, 0, none⟩)), (3, .int .i64 s112.1)] ∧ St B w0 (⟨some b4, 0, 10, fun q => .int .i64 ((fun _ => (0 : Int)) q), true⟩ :: ⟨some b3, 0, 10, fun q => .int .i64 (s112.2 q), true⟩ :: L) w) ⟨(zer (zer (zer zen))), h4⟩ ?_
  rintro ⟨carry109, m110⟩ o112 hR hx112 ev113 wl113 ⟨he113, h113⟩
  obtain ⟨ev113, rfl⟩ := he113.open
  unfold letheref07_carried_l0 at hR
  refine W.seq_k fun _ k114 => W.seq_k fun _ k115 => ?_
  refine W.regionT [(0, true), (1, true)] (by kernel_rfl) ?_
  refine Plan.move_int rfl rfl <| Plan.cmpP (a := (carry109 : Int)) (b := (0 : Int)) (p := 0 < carry109) rfl rfl rfl rfl icmp_gt <| Plan.nil (k115 _ _ ?_); clear k115
  by_cases hc116 : 0 < carry109
  ·
   replace hR := ifT hR hc116
   refine W.condT (congrArg Value.bool (decide_eq_true hc116)) ?_
   refine W.skip ?_
   refine k114 _ _ ?_; clear k114
   refine W.block ?_
   refine W.seq_k fun _ k117 => W.regionT [(0, true)] (by kernel_rfl) ?_
   refine Plan.assign_int rfl rfl <| Plan.nil (k117 _ _ ?_); clear k117
   refine W.seq_k fun _ k118 => W.seq_k fun _ k119 => ?_
   refine W.regionT [(0, true)] (by kernel_rfl) ?_
   refine Plan.assign_int rfl rfl <| Plan.nil (k119 _ _ ?_); clear k119
   obtain ⟨carry146, m147, hI148, hR0148⟩ := hR
   refine W.cutN (fun e w => ∃ y_carry146 : Int, ∃ y_m147 : Nat → Int, (carry146, m147) = (y_carry146, y_m147) ∧ EnvHas e [(1, .pointer (some ⟨b3, 0, none⟩)), (2, .pointer (some ⟨b4, 0, none⟩)), (3, .int .i64 y_carry146)] ∧ St B w0 (⟨some b4, 0, 10, fun q => .int .i64 ((fun _ => (0 : Int)) q), true⟩ :: ⟨some b3, 0, 10, fun q => .int .i64 (y_m147 q), true⟩ :: L) w) ?_ ?_
   ·
    refine W.block ?_
    refine W.iter hI148 (fun (s148 : (Int × Nat × (Nat → Int))) e w => EnvHas e [(1, .pointer (some ⟨b3, 0, none⟩)), (2, .pointer (some ⟨b4, 0, none⟩)), (3, .int .i64 s148.1), (4, VN s148.2.1)] ∧ St B w0 (⟨some b4, 0, 10, fun q => .int .i64 ((fun _ => (0 : Int)) q), true⟩ :: ⟨some b3, 0, 10, fun q => .int .i64 (s148.2.2 q), true⟩ :: L) w) ⟨(zer (zer (zer (zer zen)))), h113⟩ ?_
    rintro ⟨carry143, i_144, m145⟩ o148 hR hx148 ev149 wl149 ⟨he149, h149⟩
    obtain ⟨ev149, rfl⟩ := he149.open
    unfold letheref07_carried_l1 at hR
    refine W.seq_k fun _ k150 => W.seq_k fun _ k151 => ?_
    refine W.regionT [(0, true), (1, true)] (by kernel_rfl) ?_
    refine Plan.move_int rfl rfl <| Plan.cmpP (a := (((i_144 : Nat) : Int) : Int)) (b := (10 : Int)) (p := i_144 < 10) rfl rfl rfl rfl icmp_ltN <| Plan.nil (k151 _ _ ?_); clear k151
    by_cases hc152 : i_144 < 10
    ·
     replace hR := ifT hR hc152
     refine W.condT (congrArg Value.bool (decide_eq_true hc152)) ?_
     refine W.skip ?_
     refine k150 _ _ ?_; clear k150
     refine W.seq_k fun _ k153 => ?_
     refine W.block ?_
     refine W.seq_k fun _ k154 => W.regionT [(0, true), (1, true), (2, true), (3, true), (4, true), (5, true)] (by kernel_rfl) ?_
     refine Plan.move_int rfl rfl <| Plan.idxArr1 (j := i_144) FRef07.arr129 rfl rfl rfl (by omega) <| Plan.load1 (j := i_144) h149 1 rfl rfl rfl (by omega) FRef07.sc3 <| Plan.move_int rfl rfl ?_
     obtain ⟨hc155, hR⟩ := hR
     refine Plan.addI (a := (m145 i_144)) (b := carry143) rfl rfl rfl (by omega) <| Plan.assign_int rfl rfl <| Plan.nil (k154 _ _ ?_); clear k154
     refine W.seq_k fun _ k156 => W.regionT [(0, true), (1, true), (2, true), (3, true), (4, false)] (by kernel_rfl) ?_
     refine Plan.move_int rfl rfl <| Plan.move_int rfl rfl ?_
     have hb157 := tmod_bd ((m145 i_144) + carry143) (c := 67108864) (by decide)
     refine Plan.remI (a := ((m145 i_144) + carry143)) (b := 67108864) rfl rfl rfl (by omega) <| Plan.idxArr1 (j := i_144) FRef07.arr129 rfl rfl rfl (by omega) ?_
     refine Plan.storeI (j := i_144) (X := (((m145 i_144) + carry143).tmod 67108864)) h149 1 rfl rfl rfl rfl (by omega) FRef07.sz3 rfl fun w158 h158 => ?_
     simp only [zca, zna, zsz, zss] at h158
     refine Plan.nil (k156 _ _ ?_); clear k156
     refine W.regionT [(0, true), (1, true), (2, true)] (by kernel_rfl) ?_
     refine Plan.move_int rfl rfl ?_
     obtain ⟨hc159, hR⟩ := hR
     refine Plan.quoIw (a := ((m145 i_144) + carry143)) (b := 67108864) rfl rfl rfl (by omega) hc159 <| Plan.assign_int rfl rfl <| Plan.nil ?_
     refine blockR_norm ?_
     refine k153 _ _ ?_; clear k153
     refine W.regionT [(0, true), (1, true), (2, true)] (by kernel_rfl) ?_
     refine Plan.move_int rfl rfl <| Plan.addN (a := i_144) (b := 1) rfl rfl rfl (by omega) <| Plan.assign_int rfl rfl <| Plan.nil ?_
     exact iterR_norm ⟨_, hR, (zer (zer (zer (zer zen)))), h158⟩
    ·
     replace hR := ifF hR hc152
     refine W.condF (congrArg Value.bool (decide_eq_false hc152)) ?_
     refine W.exit (thenR_exit (iterR_exit (blockR_here ?_)))
     exact ⟨carry143, m145, (hx148 _ hR).symm, (zer (zer (zer zen))), h149⟩
   ·
    rintro ev160 wl160 ⟨y_carry146, y_m147, hy160, he160, h160⟩
    obtain ⟨ev160, rfl⟩ := he160.open
    cases hy160
    replace hR := hR0148
    refine k118 _ _ ?_; clear k118
    refine W.regionT [(0, true), (1, true), (2, true), (3, true), (4, true), (5, true), (6, false)] (by kernel_rfl) ?_
    refine Plan.idxArr1 (j := 0) FRef07.arr129 rfl rfl rfl (by omega) <| Plan.load1 (j := 0) h160 1 rfl rfl rfl (by omega) FRef07.sc3 <| Plan.move_int rfl rfl ?_
    obtain ⟨hc161, hR⟩ := hR
    refine Plan.mulI (a := 608) (b := carry146) rfl rfl rfl (by omega) ?_
    obtain ⟨hc162, hR⟩ := hR
    refine Plan.addI (a := (m147 0)) (b := (608 * carry146)) rfl rfl rfl (by omega) <| Plan.idxArr1 (j := 0) FRef07.arr129 rfl rfl rfl (by omega) ?_
    refine Plan.storeI (j := 0) (X := ((m147 0) + (608 * carry146))) h160 1 rfl rfl rfl rfl (by omega) FRef07.sz3 rfl fun w163 h163 => ?_
    simp only [zca, zna, zsz, zss] at h163
    refine Plan.nil ?_
    refine blockR_norm ?_
    exact iterR_norm ⟨_, hR, (zer (zer (zer zen))), h163⟩
  ·
   replace hR := ifF hR hc116
   refine W.condF (congrArg Value.bool (decide_eq_false hc116)) ?_
   refine W.exit (thenR_exit (iterR_exit (blockR_here ?_)))
   exact ⟨m110, (hx112 _ hR).symm, (zer (zer zen)), h113⟩
 ·
  rintro ev164 wl164 ⟨y_m111, hy164, he164, h164⟩
  obtain ⟨ev164, rfl⟩ := he164.open
  subst hy164
  replace hR := hR0112
  refine k6 _ _ ?_; clear k6
  refine W.seq_k fun _ k165 => W.regionT [(0, true), (1, false)] (by kernel_rfl) ?_
  refine Plan.loadA1 h164 1 rfl rfl rfl FRef07.agg129 ?_
  refine Plan.storeA (f' := fun q => .int .i64 (m111 q)) h164 0 rfl rfl rfl rfl (fun _ _ => rfl) FRef07.sz129 rfl fun w166 h166 => ?_
  simp only [zca, zna, zsz, zss] at h166
  refine Plan.nil (k165 _ _ ?_); clear k165
  refine W.ret (finR_ret ?_)
  have h167 := St.pickT (C := [_, _]) h166 [] (by decide)
  simp only [pick, zfc, zfn, zgz, zgs, zca, zna] at h167
  subst r
  refine RetOk.mk (.agg h166 rfl (.cons 0 rfl .nil) FRef07.agg129 .nil) ?_
  exact ⟨rfl, h167⟩
theorem letheref07_of_ok {B : Nat} {w0 w : World} {L : List Rg} {n_1 : Int} {r : (Nat → Int)} (hR : letheref07_of n_1 r) (HST : St B w0 (L) w) :
  Calls Tryd.prog 66 #[.int .i64 n_1] w fun e w' => e = .returned (AG [(10, fun q => .int .i64 (r q))]) ∧ St B w0 (L) w' := by
 refine W.enter 8 Tryd.func66 rfl rfl rfl ?_
 unfold letheref07_of at hR
 refine W.seq_k fun _ k2 => W.regionT [(0, false)] (by kernel_rfl) ?_
 refine Plan.alloc HST rfl FRef07.z129 PIn.nil fun b3 w3 hb3 h3 => ?_
 simp only [rngs, Nat.zero_add, Nat.reduceAdd, zca, zna] at h3
 refine Plan.nil (k2 _ _ ?_); clear k2
 refine W.seq_k fun _ k4 => W.regionT [(0, false)] (by kernel_rfl) ?_
 refine Plan.alloc h3 rfl FRef07.z129 PIn.nil fun b5 w5 hb5 h5 => ?_
 simp only [rngs, Nat.zero_add, Nat.reduceAdd, zca, zna] at h5
 refine Plan.nil (k4 _ _ ?_); clear k4
 refine W.seq_k fun _ k6 => W.regionT [(0, true), (1, true), (2, false)] (by kernel_rfl) ?_
 refine Plan.move_int rfl rfl <| Plan.idxArr1 (j := 0) FRef07.arr129 rfl rfl rfl (by omega) ?_
 refine Plan.storeI (j := 0) (X := n_1) h5 0 rfl rfl rfl rfl (by omega) FRef07.sz3 rfl fun w7 h7 => ?_
 simp only [zca, zna, zsz, zss] at h7
 refine Plan.nil (k6 _ _ ?_); clear k6
 refine W.seq_k fun _ k8 => W.regionT [(0, true), (1, false), (2, false)] (by kernel_rfl) ?_
 refine Plan.loadA1 h7 0 rfl rfl rfl FRef07.agg129 ?_
 obtain ⟨x_10, hr9, hR⟩ := hR
 refine Plan.call (vs := [AG [(10, fun q => .int .i64 ((upd (fun _ => (0 : Int)) 0 n_1) q))]]) rfl FRef07.call75 rfl (letheref07_carried_ok  hr9 h7) ?_
 rintro _ w11 ⟨rfl, h11⟩
 refine ⟨_, rfl, .inr ⟨rfl, ?_⟩⟩
 refine Plan.storeA (f' := fun q => .int .i64 (x_10 q)) h11 1 rfl rfl rfl rfl (fun _ _ => rfl) FRef07.sz129 rfl fun w12 h12 => ?_
 simp only [zca, zna, zsz, zss] at h12
 refine Plan.nil (k8 _ _ ?_); clear k8
 refine W.ret (finR_ret ?_)
 have h13 := St.pickT (C := [_, _]) h12 [] (by decide)
 simp only [pick, zfc, zfn, zgz, zgs, zca, zna] at h13
 subst r
 refine RetOk.mk (.agg h12 rfl (.cons 1 rfl .nil) FRef07.agg129 .nil) ?_
 exact ⟨rfl, h13⟩
theorem letheref07_Add_ok {B : Nat} {w0 w : World} {L : List Rg} {a1 : Nat → Int} {b2 : Nat → Int} {r : (Nat → Int)} (hR : letheref07_Add a1 b2 r) (HST : St B w0 (L) w) :
  Calls Tryd.prog 68 #[AG [(10, fun q => .int .i64 (a1 q))], AG [(10, fun q => .int .i64 (b2 q))]] w fun e w' => e = .returned (AG [(10, fun q => .int .i64 (r q))]) ∧ St B w0 (L) w' := by
 refine W.enter 21 Tryd.func68 rfl rfl rfl ?_
 unfold letheref07_Add at hR
 refine W.seq_k fun _ k3 => W.regionT [(0, false), (1, false), (2, false)] (by kernel_rfl) ?_
 refine Plan.boxA HST rfl rfl PIn.nil fun b4 w4 hb4 h4 => ?_
 simp only [rngs, Nat.zero_add, Nat.reduceAdd, zca, zna] at h4
 refine Plan.boxA h4 rfl rfl PIn.nil fun b5 w5 hb5 h5 => ?_
 simp only [rngs, Nat.zero_add, Nat.reduceAdd, zca, zna] at h5
 refine Plan.alloc h5 rfl FRef07.z129 PIn.nil fun b6 w6 hb6 h6 => ?_
 simp only [rngs, Nat.zero_add, Nat.reduceAdd, zca, zna] at h6
 refine Plan.nil (k3 _ _ ?_); clear k3
 refine W.seq_k fun _ k7 => W.seq_k fun _ k8 => ?_
 refine W.regionT [(0, true)] (by kernel_rfl) ?_
 refine Plan.assign_int rfl rfl <| Plan.nil (k8 _ _ ?_); clear k8
 obtain ⟨m27, hI28, hR028⟩ := hR
 refine W.cutN (fun e w => ∃ y_m27 : Nat → Int, m27 = y_m27 ∧ EnvHas e [(2, .pointer (some ⟨b4, 0, none⟩)), (4, .pointer (some ⟨b6, 0, none⟩))] ∧ St B w0 (⟨some b6, 0, 10, fun q => .int .i64 ((fun _ => (0 : Int)) q), true⟩ :: ⟨some b4, 0, 10, fun q => .int .i64 (y_m27 q), true⟩ :: L) w) ?_ ?_
 ·
  refine W.block ?_
  refine W.iter hI28 (fun (s28 : (Nat × (Nat → Int))) e w => EnvHas e [(2, .pointer (some ⟨b4, 0, none⟩)), (3, .pointer (some ⟨b5, 0, none⟩)), (4, .pointer (some ⟨b6, 0, none⟩)), (5, VN s28.1)] ∧ St B w0 (⟨some b6, 0, 10, fun q => .int .i64 ((fun _ => (0 : Int)) q), true⟩ :: ⟨some b5, 0, 10, fun q => .int .i64 (b2 q), true⟩ :: ⟨some b4, 0, 10, fun q => .int .i64 (s28.2 q), true⟩ :: L) w) ⟨(zer (zer (zer (zer zen)))), h6⟩ ?_
  rintro ⟨i_25, m26⟩ o28 hR hx28 ev29 wl29 ⟨he29, h29⟩
  obtain ⟨ev29, rfl⟩ := he29.open
  unfold letheref07_Add_l0 at hR
  refine W.seq_k fun _ k30 => W.seq_k fun _ k31 => ?_
  refine W.regionT [(0, true), (1, true)] (by kernel_rfl) ?_
  refine Plan.move_int rfl rfl <| Plan.cmpP (a := (((i_25 : Nat) : Int) : Int)) (b := (10 : Int)) (p := i_25 < 10) rfl rfl rfl rfl icmp_ltN <| Plan.nil (k31 _ _ ?_); clear k31
  by_cases hc32 : i_25 < 10
  ·
   replace hR := ifT hR hc32
   refine W.condT (congrArg Value.bool (decide_eq_true hc32)) ?_
   refine W.skip ?_
   refine k30 _ _ ?_; clear k30
   refine W.seq_k fun _ k33 => ?_
   refine W.block ?_
   refine W.regionD FRef07.mixed [(0, true), (1, true), (2, true), (3, true), (4, true), (5, true), (6, true), (7, true), (8, true), (9, false)] (by kernel_rfl) ?_
   have h34 := h29.drew
   refine Plan.move_int rfl rfl <| Plan.move_int rfl rfl <| Plan.idxArr1 (j := i_25) FRef07.arr129 rfl rfl rfl (by omega) <| Plan.load1 (j := i_25) h34 2 rfl rfl rfl (by omega) FRef07.sc3 <| Plan.move_int rfl rfl <| Plan.idxArr1 (j := i_25) FRef07.arr129 rfl rfl rfl (by omega) <| Plan.load1 (j := i_25) h34 1 rfl rfl rfl (by omega) FRef07.sc3 ?_
   obtain ⟨hc35, hR⟩ := hR
   refine Plan.addI (a := (m26 i_25)) (b := (b2 i_25)) rfl rfl rfl (by omega) <| Plan.idxArr1 (j := i_25) FRef07.arr129 rfl rfl rfl (by omega) ?_
   refine Plan.storeI (j := i_25) (X := ((m26 i_25) + (b2 i_25))) h34 2 rfl rfl rfl rfl (by omega) FRef07.sz3 rfl fun w36 h36 => ?_
   simp only [zca, zna, zsz, zss] at h36
   refine Plan.nil ?_
   refine blockR_norm ?_
   refine k33 _ _ ?_; clear k33
   refine W.regionT [(0, true), (1, true), (2, true)] (by kernel_rfl) ?_
   refine Plan.move_int rfl rfl <| Plan.addN (a := i_25) (b := 1) rfl rfl rfl (by omega) <| Plan.assign_int rfl rfl <| Plan.nil ?_
   exact iterR_norm ⟨_, hR, (zer (zer (zer (zer zen)))), h36⟩
  ·
   replace hR := ifF hR hc32
   refine W.condF (congrArg Value.bool (decide_eq_false hc32)) ?_
   refine W.exit (thenR_exit (iterR_exit (blockR_here ?_)))
   have h37 := St.pickT (C := [_, _, _]) h29 [0, 2] (by decide)
   simp only [pick, zfc, zfn, zgz, zgs, zca, zna] at h37
   exact ⟨m26, (hx28 _ hR).symm, (zer (zer zen)), h37⟩
 ·
  rintro ev38 wl38 ⟨y_m27, hy38, he38, h38⟩
  obtain ⟨ev38, rfl⟩ := he38.open
  subst hy38
  replace hR := hR028
  refine k7 _ _ ?_; clear k7
  refine W.seq_k fun _ k39 => W.regionT [(0, true), (1, false), (2, false)] (by kernel_rfl) ?_
  refine Plan.loadA1 h38 1 rfl rfl rfl FRef07.agg129 ?_
  obtain ⟨x_41, hr40, hR⟩ := hR
  refine Plan.call (vs := [AG [(10, fun q => .int .i64 (m27 q))]]) rfl FRef07.call75 rfl (letheref07_carried_ok  hr40 h38) ?_
  rintro _ w42 ⟨rfl, h42⟩
  refine ⟨_, rfl, .inr ⟨rfl, ?_⟩⟩
  refine Plan.storeA (f' := fun q => .int .i64 (x_41 q)) h42 0 rfl rfl rfl rfl (fun _ _ => rfl) FRef07.sz129 rfl fun w43 h43 => ?_
  simp only [zca, zna, zsz, zss] at h43
  refine Plan.nil (k39 _ _ ?_); clear k39
  refine W.ret (finR_ret ?_)
  have h44 := St.pickT (C := [_, _]) h43 [] (by decide)
  simp only [pick, zfc, zfn, zgz, zgs, zca, zna] at h44
  subst r
  refine RetOk.mk (.agg h43 rfl (.cons 0 rfl .nil) FRef07.agg129 .nil) ?_
  exact ⟨rfl, h44⟩
theorem letheref07_Sub_ok {B : Nat} {w0 w : World} {L : List Rg} {a1 : Nat → Int} {b2 : Nat → Int} {r : (Nat → Int)} (hR : letheref07_Sub a1 b2 r) (HST : St B w0 (L) w) :
  Calls Tryd.prog 69 #[AG [(10, fun q => .int .i64 (a1 q))], AG [(10, fun q => .int .i64 (b2 q))]] w fun e w' => e = .returned (AG [(10, fun q => .int .i64 (r q))]) ∧ St B w0 (L) w' := by
 refine W.enter 26 Tryd.func69 rfl rfl rfl ?_
 unfold letheref07_Sub at hR
 refine W.seq_k fun _ k3 => W.regionT [(0, false), (1, false), (2, false)] (by kernel_rfl) ?_
 refine Plan.boxA HST rfl rfl PIn.nil fun b4 w4 hb4 h4 => ?_
 simp only [rngs, Nat.zero_add, Nat.reduceAdd, zca, zna] at h4
 refine Plan.boxA h4 rfl rfl PIn.nil fun b5 w5 hb5 h5 => ?_
 simp only [rngs, Nat.zero_add, Nat.reduceAdd, zca, zna] at h5
 refine Plan.alloc h5 rfl FRef07.z129 PIn.nil fun b6 w6 hb6 h6 => ?_
 simp only [rngs, Nat.zero_add, Nat.reduceAdd, zca, zna] at h6
 refine Plan.nil (k3 _ _ ?_); clear k3
 refine W.seq_k fun _ k7 => W.seq_k fun _ k8 => ?_
 refine W.regionT [(0, true)] (by kernel_rfl) ?_
 refine Plan.assign_int rfl rfl <| Plan.nil (k8 _ _ ?_); clear k8
 obtain ⟨m47, hI48, hR048⟩ := hR
 refine W.cutN (fun e w => ∃ y_m47 : Nat → Int, m47 = y_m47 ∧ EnvHas e [(2, .pointer (some ⟨b4, 0, none⟩)), (4, .pointer (some ⟨b6, 0, none⟩))] ∧ St B w0 (⟨some b6, 0, 10, fun q => .int .i64 ((fun _ => (0 : Int)) q), true⟩ :: ⟨some b4, 0, 10, fun q => .int .i64 (y_m47 q), true⟩ :: L) w) ?_ ?_
 ·
  refine W.block ?_
  refine W.iter hI48 (fun (s48 : (Nat × (Nat → Int))) e w => EnvHas e [(2, .pointer (some ⟨b4, 0, none⟩)), (3, .pointer (some ⟨b5, 0, none⟩)), (4, .pointer (some ⟨b6, 0, none⟩)), (5, VN s48.1)] ∧ St B w0 (⟨some b6, 0, 10, fun q => .int .i64 ((fun _ => (0 : Int)) q), true⟩ :: ⟨some b5, 0, 10, fun q => .int .i64 (b2 q), true⟩ :: ⟨some b4, 0, 10, fun q => .int .i64 (s48.2 q), true⟩ :: L) w) ⟨(zer (zer (zer (zer zen)))), h6⟩ ?_
  rintro ⟨i_45, m46⟩ o48 hR hx48 ev49 wl49 ⟨he49, h49⟩
  obtain ⟨ev49, rfl⟩ := he49.open
  unfold letheref07_Sub_l0 at hR
  refine W.seq_k fun _ k50 => W.seq_k fun _ k51 => ?_
  refine W.regionT [(0, true), (1, true)] (by kernel_rfl) ?_
  refine Plan.move_int rfl rfl <| Plan.cmpP (a := (((i_45 : Nat) : Int) : Int)) (b := (10 : Int)) (p := i_45 < 10) rfl rfl rfl rfl icmp_ltN <| Plan.nil (k51 _ _ ?_); clear k51
  by_cases hc52 : i_45 < 10
  ·
   replace hR := ifT hR hc52
   refine W.condT (congrArg Value.bool (decide_eq_true hc52)) ?_
   refine W.skip ?_
   refine k50 _ _ ?_; clear k50
   refine W.seq_k fun _ k53 => ?_
   refine W.block ?_
   refine W.seq_k fun _ k54 => W.regionT [(0, true)] (by kernel_rfl) ?_
   refine Plan.assign_int rfl rfl <| Plan.nil (k54 _ _ ?_); clear k54
   refine W.seq_k fun _ k55 => ?_
   obtain ⟨p58, hX59, hR059⟩ := hR
   refine W.cutN (fun e w => ∃ y_p58 : Nat, (p58 = y_p58) ∧ EnvHas e [(2, .pointer (some ⟨b4, 0, none⟩)), (3, .pointer (some ⟨b5, 0, none⟩)), (4, .pointer (some ⟨b6, 0, none⟩)), (5, VN i_45), (6, VN y_p58)] ∧ St B w0 (⟨some b6, 0, 10, fun q => .int .i64 ((fun _ => (0 : Int)) q), true⟩ :: ⟨some b5, 0, 10, fun q => .int .i64 (b2 q), true⟩ :: ⟨some b4, 0, 10, fun q => .int .i64 (m46 q), true⟩ :: L) w) ?_ ?_
   ·
    replace hR := hX59
    refine W.seq_k fun _ k60 => W.regionT [(0, true), (1, true)] (by kernel_rfl) ?_
    refine Plan.move_int rfl rfl <| Plan.cmpP (a := (((i_45 : Nat) : Int) : Int)) (b := (0 : Int)) (p := i_45 = 0) rfl rfl rfl rfl icmp_eqN <| Plan.nil (k60 _ _ ?_); clear k60
    by_cases hc61 : i_45 = 0
    ·
     replace hR := ifT hR hc61
     refine W.condT (congrArg Value.bool (decide_eq_true hc61)) ?_
     refine W.regionT [(0, true)] (by kernel_rfl) ?_
     refine Plan.assign_int rfl rfl <| Plan.nil ?_
     exact ⟨134216512, hR, (zer (zer (zer (zer (zer zen))))), h49⟩
    ·
     replace hR := ifF hR hc61
     refine W.condF (congrArg Value.bool (decide_eq_false hc61)) ?_
     refine W.skip ?_
     exact ⟨134217726, hR, (zer (zer (zer (zer (zer zen))))), h49⟩
   ·
    rintro ev62 wl62 ⟨y_p58, hy62_0, he62, h62⟩
    subst hy62_0
    obtain ⟨ev62, rfl⟩ := he62.open
    replace hR := hR059
    refine k55 _ _ ?_; clear k55
    refine W.regionD FRef07.mixed [(0, true), (1, true), (2, true), (3, true), (4, true), (5, true), (6, true), (7, true), (8, true), (9, true), (10, true), (11, false)] (by kernel_rfl) ?_
    have h63 := h62.drew
    refine Plan.move_int rfl rfl <| Plan.move_int rfl rfl <| Plan.idxArr1 (j := i_45) FRef07.arr129 rfl rfl rfl (by omega) <| Plan.load1 (j := i_45) h63 2 rfl rfl rfl (by omega) FRef07.sc3 <| Plan.move_int rfl rfl ?_
    obtain ⟨hc64, hR⟩ := hR
    refine Plan.addI (a := (m46 i_45)) (b := ((p58 : Nat) : Int)) rfl rfl rfl (by omega) <| Plan.move_int rfl rfl <| Plan.idxArr1 (j := i_45) FRef07.arr129 rfl rfl rfl (by omega) <| Plan.load1 (j := i_45) h63 1 rfl rfl rfl (by omega) FRef07.sc3 ?_
    obtain ⟨hc65, hR⟩ := hR
    refine Plan.subI (a := ((m46 i_45) + ((p58 : Nat) : Int))) (b := (b2 i_45)) rfl rfl rfl (by omega) <| Plan.idxArr1 (j := i_45) FRef07.arr129 rfl rfl rfl (by omega) ?_
    refine Plan.storeI (j := i_45) (X := (((m46 i_45) + ((p58 : Nat) : Int)) - (b2 i_45))) h63 2 rfl rfl rfl rfl (by omega) FRef07.sz3 rfl fun w66 h66 => ?_
    simp only [zca, zna, zsz, zss] at h66
    refine Plan.nil ?_
    refine blockR_norm ?_
    refine k53 _ _ ?_; clear k53
    refine W.regionT [(0, true), (1, true), (2, true)] (by kernel_rfl) ?_
    refine Plan.move_int rfl rfl <| Plan.addN (a := i_45) (b := 1) rfl rfl rfl (by omega) <| Plan.assign_int rfl rfl <| Plan.nil ?_
    exact iterR_norm ⟨_, hR, (zer (zer (zer (zer zen)))), h66⟩
  ·
   replace hR := ifF hR hc52
   refine W.condF (congrArg Value.bool (decide_eq_false hc52)) ?_
   refine W.exit (thenR_exit (iterR_exit (blockR_here ?_)))
   have h67 := St.pickT (C := [_, _, _]) h49 [0, 2] (by decide)
   simp only [pick, zfc, zfn, zgz, zgs, zca, zna] at h67
   exact ⟨m46, (hx48 _ hR).symm, (zer (zer zen)), h67⟩
 ·
  rintro ev68 wl68 ⟨y_m47, hy68, he68, h68⟩
  obtain ⟨ev68, rfl⟩ := he68.open
  subst hy68
  replace hR := hR048
  refine k7 _ _ ?_; clear k7
  refine W.seq_k fun _ k69 => W.regionT [(0, true), (1, false), (2, false)] (by kernel_rfl) ?_
  refine Plan.loadA1 h68 1 rfl rfl rfl FRef07.agg129 ?_
  obtain ⟨x_71, hr70, hR⟩ := hR
  refine Plan.call (vs := [AG [(10, fun q => .int .i64 (m47 q))]]) rfl FRef07.call75 rfl (letheref07_carried_ok  hr70 h68) ?_
  rintro _ w72 ⟨rfl, h72⟩
  refine ⟨_, rfl, .inr ⟨rfl, ?_⟩⟩
  refine Plan.storeA (f' := fun q => .int .i64 (x_71 q)) h72 0 rfl rfl rfl rfl (fun _ _ => rfl) FRef07.sz129 rfl fun w73 h73 => ?_
  simp only [zca, zna, zsz, zss] at h73
  refine Plan.nil (k69 _ _ ?_); clear k69
  refine W.ret (finR_ret ?_)
  have h74 := St.pickT (C := [_, _]) h73 [] (by decide)
  simp only [pick, zfc, zfn, zgz, zgs, zca, zna] at h74
  subst r
  refine RetOk.mk (.agg h73 rfl (.cons 0 rfl .nil) FRef07.agg129 .nil) ?_
  exact ⟨rfl, h74⟩
theorem letheref07_Mul_ok {B : Nat} {w0 w : World} {L : List Rg} {a1 : Nat → Int} {b2 : Nat → Int} {r : (Nat → Int)} (hR : letheref07_Mul a1 b2 r) (HST : St B w0 (L) w) :
  Calls Tryd.prog 70 #[AG [(10, fun q => .int .i64 (a1 q))], AG [(10, fun q => .int .i64 (b2 q))]] w fun e w' => e = .returned (AG [(10, fun q => .int .i64 (r q))]) ∧ St B w0 (L) w' := by
 refine W.enter 70 Tryd.func70 rfl rfl rfl ?_
 unfold letheref07_Mul at hR
 refine W.seq_k fun _ k3 => W.regionT [(0, false), (1, false), (2, false)] (by kernel_rfl) ?_
 refine Plan.boxA HST rfl rfl PIn.nil fun b4 w4 hb4 h4 => ?_
 simp only [rngs, Nat.zero_add, Nat.reduceAdd, zca, zna] at h4
 refine Plan.boxA h4 rfl rfl PIn.nil fun b5 w5 hb5 h5 => ?_
 simp only [rngs, Nat.zero_add, Nat.reduceAdd, zca, zna] at h5
 refine Plan.alloc h5 rfl FRef07.z129 PIn.nil fun b6 w6 hb6 h6 => ?_
 simp only [rngs, Nat.zero_add, Nat.reduceAdd, zca, zna] at h6
 refine Plan.nil (k3 _ _ ?_); clear k3
 refine W.seq_k fun _ k7 => W.regionT [(0, false)] (by kernel_rfl) ?_
 refine Plan.alloc h6 rfl FRef07.z137 PIn.nil fun b8 w8 hb8 h8 => ?_
 simp only [rngs, Nat.zero_add, Nat.reduceAdd, zca, zna] at h8
 refine Plan.nil (k7 _ _ ?_); clear k7
 refine W.seq_k fun _ k9 => W.seq_k fun _ k10 => ?_
 refine W.regionT [(0, true)] (by kernel_rfl) ?_
 refine Plan.assign_int rfl rfl <| Plan.nil (k10 _ _ ?_); clear k10
 obtain ⟨m89, hI90, hR090⟩ := hR
 refine W.cutN (fun e w => ∃ y_m89 : Nat → Int, m89 = y_m89 ∧ EnvHas e [(4, .pointer (some ⟨b6, 0, none⟩)), (5, .pointer (some ⟨b8, 0, none⟩))] ∧ St B w0 (⟨some b8, 0, 20, fun q => .int .i64 (y_m89 q), true⟩ :: ⟨some b6, 0, 10, fun q => .int .i64 ((fun _ => (0 : Int)) q), true⟩ :: L) w) ?_ ?_
 ·
  refine W.block ?_
  refine W.iter hI90 (fun (s90 : (Nat × (Nat → Int))) e w => EnvHas e [(2, .pointer (some ⟨b4, 0, none⟩)), (3, .pointer (some ⟨b5, 0, none⟩)), (4, .pointer (some ⟨b6, 0, none⟩)), (5, .pointer (some ⟨b8, 0, none⟩)), (6, VN s90.1)] ∧ St B w0 (⟨some b8, 0, 20, fun q => .int .i64 (s90.2 q), true⟩ :: ⟨some b6, 0, 10, fun q => .int .i64 ((fun _ => (0 : Int)) q), true⟩ :: ⟨some b5, 0, 10, fun q => .int .i64 (b2 q), true⟩ :: ⟨some b4, 0, 10, fun q => .int .i64 (a1 q), true⟩ :: L) w) ⟨(zer (zer (zer (zer (zer zen))))), h8⟩ ?_
  rintro ⟨i_87, m88⟩ o90 hR hx90 ev91 wl91 ⟨he91, h91⟩
  obtain ⟨ev91, rfl⟩ := he91.open
  unfold letheref07_Mul_l0 at hR
  refine W.seq_k fun _ k92 => W.seq_k fun _ k93 => ?_
  refine W.regionT [(0, true), (1, true)] (by kernel_rfl) ?_
  refine Plan.move_int rfl rfl <| Plan.cmpP (a := (((i_87 : Nat) : Int) : Int)) (b := (10 : Int)) (p := i_87 < 10) rfl rfl rfl rfl icmp_ltN <| Plan.nil (k93 _ _ ?_); clear k93
  by_cases hc94 : i_87 < 10
  ·
   replace hR := ifT hR hc94
   refine W.condT (congrArg Value.bool (decide_eq_true hc94)) ?_
   refine W.skip ?_
   refine k92 _ _ ?_; clear k92
   refine W.seq_k fun _ k95 => ?_
   refine W.block ?_
   refine W.seq_k fun _ k96 => W.regionT [(0, true)] (by kernel_rfl) ?_
   refine Plan.assign_int rfl rfl <| Plan.nil (k96 _ _ ?_); clear k96
   obtain ⟨m117, hI118, hR0118⟩ := hR
   refine W.cutN (fun e w => ∃ y_m117 : Nat → Int, m117 = y_m117 ∧ EnvHas e [(2, .pointer (some ⟨b4, 0, none⟩)), (3, .pointer (some ⟨b5, 0, none⟩)), (4, .pointer (some ⟨b6, 0, none⟩)), (5, .pointer (some ⟨b8, 0, none⟩)), (6, VN i_87)] ∧ St B w0 (⟨some b8, 0, 20, fun q => .int .i64 (y_m117 q), true⟩ :: ⟨some b6, 0, 10, fun q => .int .i64 ((fun _ => (0 : Int)) q), true⟩ :: ⟨some b5, 0, 10, fun q => .int .i64 (b2 q), true⟩ :: ⟨some b4, 0, 10, fun q => .int .i64 (a1 q), true⟩ :: L) w) ?_ ?_
   ·
    refine W.block ?_
    refine W.iter hI118 (fun (s118 : (Nat × (Nat → Int))) e w => EnvHas e [(2, .pointer (some ⟨b4, 0, none⟩)), (3, .pointer (some ⟨b5, 0, none⟩)), (4, .pointer (some ⟨b6, 0, none⟩)), (5, .pointer (some ⟨b8, 0, none⟩)), (6, VN i_87), (7, VN s118.1)] ∧ St B w0 (⟨some b8, 0, 20, fun q => .int .i64 (s118.2 q), true⟩ :: ⟨some b6, 0, 10, fun q => .int .i64 ((fun _ => (0 : Int)) q), true⟩ :: ⟨some b5, 0, 10, fun q => .int .i64 (b2 q), true⟩ :: ⟨some b4, 0, 10, fun q => .int .i64 (a1 q), true⟩ :: L) w) ⟨(zer (zer (zer (zer (zer (zer zen)))))), h91⟩ ?_
    rintro ⟨j115, m116⟩ o118 hR hx118 ev119 wl119 ⟨he119, h119⟩
    obtain ⟨ev119, rfl⟩ := he119.open
    unfold letheref07_Mul_l1 at hR
    refine W.seq_k fun _ k120 => W.seq_k fun _ k121 => ?_
    refine W.regionT [(0, true), (1, true)] (by kernel_rfl) ?_
    refine Plan.move_int rfl rfl <| Plan.cmpP (a := (((j115 : Nat) : Int) : Int)) (b := (10 : Int)) (p := j115 < 10) rfl rfl rfl rfl icmp_ltN <| Plan.nil (k121 _ _ ?_); clear k121
    by_cases hc122 : j115 < 10
    ·
     replace hR := ifT hR hc122
     refine W.condT (congrArg Value.bool (decide_eq_true hc122)) ?_
     refine W.skip ?_
     refine k120 _ _ ?_; clear k120
     refine W.seq_k fun _ k123 => ?_
     refine W.block ?_
     refine W.regionD FRef07.mixed [(0, true), (1, true), (2, true), (3, true), (4, true), (5, true), (6, true), (7, true), (8, true), (9, true), (10, true), (11, true), (12, true), (13, true), (14, true), (15, true), (16, true), (17, false)] (by kernel_rfl) ?_
     have h124 := h119.drew
     refine Plan.move_int rfl rfl <| Plan.move_int rfl rfl <| Plan.addN (a := i_87) (b := j115) rfl rfl rfl (by omega) <| Plan.move_int rfl rfl <| Plan.move_int rfl rfl <| Plan.addN (a := i_87) (b := j115) rfl rfl rfl (by omega) <| Plan.idxArr1 (j := (i_87 + j115)) FRef07.arr137 rfl rfl rfl (by omega) <| Plan.load1 (j := (i_87 + j115)) h124 0 rfl rfl rfl (by omega) FRef07.sc3 ?_
     refine Plan.move_int rfl rfl <| Plan.idxArr1 (j := i_87) FRef07.arr129 rfl rfl rfl (by omega) <| Plan.load1 (j := i_87) h124 3 rfl rfl rfl (by omega) FRef07.sc3 <| Plan.move_int rfl rfl <| Plan.idxArr1 (j := j115) FRef07.arr129 rfl rfl rfl (by omega) <| Plan.load1 (j := j115) h124 2 rfl rfl rfl (by omega) FRef07.sc3 ?_
     obtain ⟨hc125, hR⟩ := hR
     refine Plan.mulI (a := (a1 i_87)) (b := (b2 j115)) rfl rfl rfl (by omega) ?_
     obtain ⟨hc126, hR⟩ := hR
     refine Plan.addI (a := (m116 (i_87 + j115))) (b := ((a1 i_87) * (b2 j115))) rfl rfl rfl (by omega) <| Plan.idxArr1 (j := (i_87 + j115)) FRef07.arr137 rfl rfl rfl (by omega) ?_
     refine Plan.storeI (j := (i_87 + j115)) (X := ((m116 (i_87 + j115)) + ((a1 i_87) * (b2 j115)))) h124 0 rfl rfl rfl rfl (by omega) FRef07.sz3 rfl fun w127 h127 => ?_
     simp only [zca, zna, zsz, zss] at h127
     refine Plan.nil ?_
     refine blockR_norm ?_
     refine k123 _ _ ?_; clear k123
     refine W.regionT [(0, true), (1, true), (2, true)] (by kernel_rfl) ?_
     refine Plan.move_int rfl rfl <| Plan.addN (a := j115) (b := 1) rfl rfl rfl (by omega) <| Plan.assign_int rfl rfl <| Plan.nil ?_
     exact iterR_norm ⟨_, hR, (zer (zer (zer (zer (zer (zer zen)))))), h127⟩
    ·
     replace hR := ifF hR hc122
     refine W.condF (congrArg Value.bool (decide_eq_false hc122)) ?_
     refine W.exit (thenR_exit (iterR_exit (blockR_here ?_)))
     exact ⟨m116, (hx118 _ hR).symm, (zer (zer (zer (zer (zer zen))))), h119⟩
   ·
    rintro ev128 wl128 ⟨y_m117, hy128, he128, h128⟩
    obtain ⟨ev128, rfl⟩ := he128.open
    subst hy128
    replace hR := hR0118
    refine blockR_norm ?_
    refine k95 _ _ ?_; clear k95
    refine W.regionT [(0, true), (1, true), (2, true)] (by kernel_rfl) ?_
    refine Plan.move_int rfl rfl <| Plan.addN (a := i_87) (b := 1) rfl rfl rfl (by omega) <| Plan.assign_int rfl rfl <| Plan.nil ?_
    exact iterR_norm ⟨_, hR, (zer (zer (zer (zer (zer zen))))), h128⟩
  ·
   replace hR := ifF hR hc94
   refine W.condF (congrArg Value.bool (decide_eq_false hc94)) ?_
   refine W.exit (thenR_exit (iterR_exit (blockR_here ?_)))
   have h129 := St.pickT (C := [_, _, _, _]) h91 [0, 1] (by decide)
   simp only [pick, zfc, zfn, zgz, zgs, zca, zna] at h129
   exact ⟨m88, (hx90 _ hR).symm, (zer (zer zen)), h129⟩
 ·
  rintro ev130 wl130 ⟨y_m89, hy130, he130, h130⟩
  obtain ⟨ev130, rfl⟩ := he130.open
  subst hy130
  replace hR := hR090
  refine k9 _ _ ?_; clear k9
  refine W.seq_k fun _ k131 => W.regionT [(0, true)] (by kernel_rfl) ?_
  refine Plan.assign_int rfl rfl <| Plan.nil (k131 _ _ ?_); clear k131
  refine W.seq_k fun _ k132 => W.seq_k fun _ k133 => ?_
  refine W.regionT [(0, true)] (by kernel_rfl) ?_
  refine Plan.assign_int rfl rfl <| Plan.nil (k133 _ _ ?_); clear k133
  obtain ⟨m160, hI161, hR0161⟩ := hR
  refine W.cutN (fun e w => ∃ y_m160 : Nat → Int, m160 = y_m160 ∧ EnvHas e [(4, .pointer (some ⟨b6, 0, none⟩)), (5, .pointer (some ⟨b8, 0, none⟩))] ∧ St B w0 (⟨some b8, 0, 20, fun q => .int .i64 (y_m160 q), true⟩ :: ⟨some b6, 0, 10, fun q => .int .i64 ((fun _ => (0 : Int)) q), true⟩ :: L) w) ?_ ?_
  ·
   refine W.block ?_
   refine W.iter hI161 (fun (s161 : (Int × Nat × (Nat → Int))) e w => EnvHas e [(4, .pointer (some ⟨b6, 0, none⟩)), (5, .pointer (some ⟨b8, 0, none⟩)), (8, .int .i64 s161.1), (9, VN s161.2.1)] ∧ St B w0 (⟨some b8, 0, 20, fun q => .int .i64 (s161.2.2 q), true⟩ :: ⟨some b6, 0, 10, fun q => .int .i64 ((fun _ => (0 : Int)) q), true⟩ :: L) w) ⟨(zer (zer (zer (zer zen)))), h130⟩ ?_
   rintro ⟨carry157, i_158, m159⟩ o161 hR hx161 ev162 wl162 ⟨he162, h162⟩
   obtain ⟨ev162, rfl⟩ := he162.open
   unfold letheref07_Mul_l2 at hR
   refine W.seq_k fun _ k163 => W.seq_k fun _ k164 => ?_
   refine W.regionT [(0, true), (1, true)] (by kernel_rfl) ?_
   refine Plan.move_int rfl rfl <| Plan.cmpP (a := (((i_158 : Nat) : Int) : Int)) (b := (20 : Int)) (p := i_158 < 20) rfl rfl rfl rfl icmp_ltN <| Plan.nil (k164 _ _ ?_); clear k164
   by_cases hc165 : i_158 < 20
   ·
    replace hR := ifT hR hc165
    refine W.condT (congrArg Value.bool (decide_eq_true hc165)) ?_
    refine W.skip ?_
    refine k163 _ _ ?_; clear k163
    refine W.seq_k fun _ k166 => ?_
    refine W.block ?_
    refine W.seq_k fun _ k167 => W.regionT [(0, true), (1, true), (2, true), (3, true), (4, true), (5, true)] (by kernel_rfl) ?_
    refine Plan.move_int rfl rfl <| Plan.idxArr1 (j := i_158) FRef07.arr137 rfl rfl rfl (by omega) <| Plan.load1 (j := i_158) h162 0 rfl rfl rfl (by omega) FRef07.sc3 <| Plan.move_int rfl rfl ?_
    obtain ⟨hc168, hR⟩ := hR
    refine Plan.addI (a := (m159 i_158)) (b := carry157) rfl rfl rfl (by omega) <| Plan.assign_int rfl rfl <| Plan.nil (k167 _ _ ?_); clear k167
    refine W.seq_k fun _ k169 => W.regionT [(0, true), (1, true), (2, true), (3, true), (4, false)] (by kernel_rfl) ?_
    refine Plan.move_int rfl rfl <| Plan.move_int rfl rfl ?_
    have hb170 := tmod_bd ((m159 i_158) + carry157) (c := 67108864) (by decide)
    refine Plan.remI (a := ((m159 i_158) + carry157)) (b := 67108864) rfl rfl rfl (by omega) <| Plan.idxArr1 (j := i_158) FRef07.arr137 rfl rfl rfl (by omega) ?_
    refine Plan.storeI (j := i_158) (X := (((m159 i_158) + carry157).tmod 67108864)) h162 0 rfl rfl rfl rfl (by omega) FRef07.sz3 rfl fun w171 h171 => ?_
    simp only [zca, zna, zsz, zss] at h171
    refine Plan.nil (k169 _ _ ?_); clear k169
    refine W.regionT [(0, true), (1, true), (2, true)] (by kernel_rfl) ?_
    refine Plan.move_int rfl rfl ?_
    obtain ⟨hc172, hR⟩ := hR
    refine Plan.quoIw (a := ((m159 i_158) + carry157)) (b := 67108864) rfl rfl rfl (by omega) hc172 <| Plan.assign_int rfl rfl <| Plan.nil ?_
    refine blockR_norm ?_
    refine k166 _ _ ?_; clear k166
    refine W.regionT [(0, true), (1, true), (2, true)] (by kernel_rfl) ?_
    refine Plan.move_int rfl rfl <| Plan.addN (a := i_158) (b := 1) rfl rfl rfl (by omega) <| Plan.assign_int rfl rfl <| Plan.nil ?_
    exact iterR_norm ⟨_, hR, (zer (zer (zer (zer zen)))), h171⟩
   ·
    replace hR := ifF hR hc165
    refine W.condF (congrArg Value.bool (decide_eq_false hc165)) ?_
    refine W.exit (thenR_exit (iterR_exit (blockR_here ?_)))
    exact ⟨m159, (hx161 _ hR).symm, (zer (zer zen)), h162⟩
  ·
   rintro ev173 wl173 ⟨y_m160, hy173, he173, h173⟩
   obtain ⟨ev173, rfl⟩ := he173.open
   subst hy173
   replace hR := hR0161
   refine k132 _ _ ?_; clear k132
   refine W.seq_k fun _ k174 => W.regionT [(0, false)] (by kernel_rfl) ?_
   refine Plan.alloc h173 rfl FRef07.z129 PIn.nil fun b175 w175 hb175 h175 => ?_
   simp only [rngs, Nat.zero_add, Nat.reduceAdd, zca, zna] at h175
   refine Plan.nil (k174 _ _ ?_); clear k174
   refine W.seq_k fun _ k176 => W.seq_k fun _ k177 => ?_
   refine W.regionT [(0, true)] (by kernel_rfl) ?_
   refine Plan.assign_int rfl rfl <| Plan.nil (k177 _ _ ?_); clear k177
   obtain ⟨m198, hI199, hR0199⟩ := hR
   refine W.cutN (fun e w => ∃ y_m198 : Nat → Int, m198 = y_m198 ∧ EnvHas e [(4, .pointer (some ⟨b6, 0, none⟩)), (11, .pointer (some ⟨b175, 0, none⟩))] ∧ St B w0 (⟨some b175, 0, 10, fun q => .int .i64 (y_m198 q), true⟩ :: ⟨some b6, 0, 10, fun q => .int .i64 ((fun _ => (0 : Int)) q), true⟩ :: L) w) ?_ ?_
   ·
    refine W.block ?_
    refine W.iter hI199 (fun (s199 : (Nat × (Nat → Int))) e w => EnvHas e [(4, .pointer (some ⟨b6, 0, none⟩)), (5, .pointer (some ⟨b8, 0, none⟩)), (11, .pointer (some ⟨b175, 0, none⟩)), (12, VN s199.1)] ∧ St B w0 (⟨some b175, 0, 10, fun q => .int .i64 (s199.2 q), true⟩ :: ⟨some b8, 0, 20, fun q => .int .i64 (m160 q), true⟩ :: ⟨some b6, 0, 10, fun q => .int .i64 ((fun _ => (0 : Int)) q), true⟩ :: L) w) ⟨(zer (zer (zer (zer zen)))), h175⟩ ?_
    rintro ⟨i_196, m197⟩ o199 hR hx199 ev200 wl200 ⟨he200, h200⟩
    obtain ⟨ev200, rfl⟩ := he200.open
    unfold letheref07_Mul_l3 at hR
    refine W.seq_k fun _ k201 => W.seq_k fun _ k202 => ?_
    refine W.regionT [(0, true), (1, true)] (by kernel_rfl) ?_
    refine Plan.move_int rfl rfl <| Plan.cmpP (a := (((i_196 : Nat) : Int) : Int)) (b := (10 : Int)) (p := i_196 < 10) rfl rfl rfl rfl icmp_ltN <| Plan.nil (k202 _ _ ?_); clear k202
    by_cases hc203 : i_196 < 10
    ·
     replace hR := ifT hR hc203
     refine W.condT (congrArg Value.bool (decide_eq_true hc203)) ?_
     refine W.skip ?_
     refine k201 _ _ ?_; clear k201
     refine W.seq_k fun _ k204 => ?_
     refine W.block ?_
     refine W.regionD FRef07.mixed [(0, true), (1, true), (2, true), (3, true), (4, true), (5, true), (6, true), (7, true), (8, true), (9, true), (10, true), (11, false)] (by kernel_rfl) ?_
     have h205 := h200.drew
     refine Plan.move_int rfl rfl <| Plan.move_int rfl rfl <| Plan.idxArr1 (j := i_196) FRef07.arr137 rfl rfl rfl (by omega) <| Plan.load1 (j := i_196) h205 1 rfl rfl rfl (by omega) FRef07.sc3 <| Plan.move_int rfl rfl <| Plan.addN (a := i_196) (b := 10) rfl rfl rfl (by omega) <| Plan.idxArr1 (j := (i_196 + 10)) FRef07.arr137 rfl rfl rfl (by omega) <| Plan.load1 (j := (i_196 + 10)) h205 1 rfl rfl rfl (by omega) FRef07.sc3 ?_
     obtain ⟨hc206, hR⟩ := hR
     refine Plan.mulI (a := 608) (b := (m160 (i_196 + 10))) rfl rfl rfl (by omega) ?_
     obtain ⟨hc207, hR⟩ := hR
     refine Plan.addI (a := (m160 i_196)) (b := (608 * (m160 (i_196 + 10)))) rfl rfl rfl (by omega) <| Plan.idxArr1 (j := i_196) FRef07.arr129 rfl rfl rfl (by omega) ?_
     refine Plan.storeI (j := i_196) (X := ((m160 i_196) + (608 * (m160 (i_196 + 10))))) h205 0 rfl rfl rfl rfl (by omega) FRef07.sz3 rfl fun w208 h208 => ?_
     simp only [zca, zna, zsz, zss] at h208
     refine Plan.nil ?_
     refine blockR_norm ?_
     refine k204 _ _ ?_; clear k204
     refine W.regionT [(0, true), (1, true), (2, true)] (by kernel_rfl) ?_
     refine Plan.move_int rfl rfl <| Plan.addN (a := i_196) (b := 1) rfl rfl rfl (by omega) <| Plan.assign_int rfl rfl <| Plan.nil ?_
     exact iterR_norm ⟨_, hR, (zer (zer (zer (zer zen)))), h208⟩
    ·
     replace hR := ifF hR hc203
     refine W.condF (congrArg Value.bool (decide_eq_false hc203)) ?_
     refine W.exit (thenR_exit (iterR_exit (blockR_here ?_)))
     have h209 := St.pickT (C := [_, _, _]) h200 [0, 2] (by decide)
     simp only [pick, zfc, zfn, zgz, zgs, zca, zna] at h209
     exact ⟨m197, (hx199 _ hR).symm, (zer (zer zen)), h209⟩
   ·
    rintro ev210 wl210 ⟨y_m198, hy210, he210, h210⟩
    obtain ⟨ev210, rfl⟩ := he210.open
    subst hy210
    replace hR := hR0199
    refine k176 _ _ ?_; clear k176
    refine W.seq_k fun _ k211 => W.regionT [(0, true), (1, false), (2, false)] (by kernel_rfl) ?_
    refine Plan.loadA1 h210 0 rfl rfl rfl FRef07.agg129 ?_
    obtain ⟨x_213, hr212, hR⟩ := hR
    refine Plan.call (vs := [AG [(10, fun q => .int .i64 (m198 q))]]) rfl FRef07.call75 rfl (letheref07_carried_ok  hr212 h210) ?_
    rintro _ w214 ⟨rfl, h214⟩
    refine ⟨_, rfl, .inr ⟨rfl, ?_⟩⟩
    refine Plan.storeA (f' := fun q => .int .i64 (x_213 q)) h214 1 rfl rfl rfl rfl (fun _ _ => rfl) FRef07.sz129 rfl fun w215 h215 => ?_
    simp only [zca, zna, zsz, zss] at h215
    refine Plan.nil (k211 _ _ ?_); clear k211
    refine W.ret (finR_ret ?_)
    have h216 := St.pickT (C := [_, _]) h215 [] (by decide)
    simp only [pick, zfc, zfn, zgz, zgs, zca, zna] at h216
    subst r
    refine RetOk.mk (.agg h215 rfl (.cons 1 rfl .nil) FRef07.agg129 .nil) ?_
    exact ⟨rfl, h216⟩
theorem letheref07_Inverse_ok {B : Nat} {w0 w : World} {L : List Rg} {a1 : Nat → Int} {r : (Nat → Int)} (hR : letheref07_Inverse a1 r) (HST : St B w0 (L) w) :
  Calls Tryd.prog 72 #[AG [(10, fun q => .int .i64 (a1 q))]] w fun e w' => e = .returned (AG [(10, fun q => .int .i64 (r q))]) ∧ St B w0 (L) w' := by
 refine W.enter 23 Tryd.func72 rfl rfl rfl ?_
 unfold letheref07_Inverse at hR
 refine W.seq_k fun _ k2 => W.regionT [(0, false), (1, false)] (by kernel_rfl) ?_
 refine Plan.boxA HST rfl rfl PIn.nil fun b3 w3 hb3 h3 => ?_
 simp only [rngs, Nat.zero_add, Nat.reduceAdd, zca, zna] at h3
 refine Plan.alloc h3 rfl FRef07.z129 PIn.nil fun b4 w4 hb4 h4 => ?_
 simp only [rngs, Nat.zero_add, Nat.reduceAdd, zca, zna] at h4
 refine Plan.nil (k2 _ _ ?_); clear k2
 refine W.seq_k fun _ k5 => W.regionT [(0, false), (1, false), (2, false)] (by kernel_rfl) ?_
 obtain ⟨x_7, hr6, hR⟩ := hR
 refine Plan.call (vs := [VN 1]) rfl FRef07.call66 rfl (letheref07_of_ok  hr6 h4) ?_
 rintro _ w8 ⟨rfl, h8⟩
 refine ⟨_, rfl, .inl ⟨PIn.keep PIn.nil h8, ?_⟩⟩
 refine Plan.alloc h8 rfl FRef07.z129 PIn.nil fun b9 w9 hb9 h9 => ?_
 simp only [rngs, Nat.zero_add, Nat.reduceAdd, zca, zna] at h9
 refine Plan.storeA (f' := fun q => .int .i64 (x_7 q)) h9 0 rfl rfl rfl rfl (fun _ _ => rfl) FRef07.sz129 rfl fun w10 h10 => ?_
 simp only [zca, zna, zsz, zss] at h10
 refine Plan.nil (k5 _ _ ?_); clear k5
 refine W.seq_k fun _ k11 => W.seq_k fun _ k12 => ?_
 refine W.regionT [(0, true)] (by kernel_rfl) ?_
 refine Plan.assign_int rfl rfl <| Plan.nil (k12 _ _ ?_); clear k12
 obtain ⟨m69, hI70, hR070⟩ := hR
 refine W.cutN (fun e w => ∃ y_m69 : Nat → Int, m69 = y_m69 ∧ EnvHas e [(2, .pointer (some ⟨b4, 0, none⟩)), (3, .pointer (some ⟨b9, 0, none⟩))] ∧ St B w0 (⟨some b9, 0, 10, fun q => .int .i64 (y_m69 q), true⟩ :: ⟨some b4, 0, 10, fun q => .int .i64 ((fun _ => (0 : Int)) q), true⟩ :: L) w) ?_ ?_
 ·
  refine W.block ?_
  refine W.iter hI70 (fun (s70 : (Int × (Nat → Int))) e w => EnvHas e [(1, .pointer (some ⟨b3, 0, none⟩)), (2, .pointer (some ⟨b4, 0, none⟩)), (3, .pointer (some ⟨b9, 0, none⟩)), (4, .int .i64 s70.1)] ∧ St B w0 (⟨some b9, 0, 10, fun q => .int .i64 (s70.2 q), true⟩ :: ⟨some b4, 0, 10, fun q => .int .i64 ((fun _ => (0 : Int)) q), true⟩ :: ⟨some b3, 0, 10, fun q => .int .i64 (a1 q), true⟩ :: L) w) ⟨(zer (zer (zer (zer zen)))), h10⟩ ?_
  rintro ⟨bit67, m68⟩ o70 hR hx70 ev71 wl71 ⟨he71, h71⟩
  obtain ⟨ev71, rfl⟩ := he71.open
  unfold letheref07_Inverse_l0 at hR
  refine W.seq_k fun _ k72 => W.seq_k fun _ k73 => ?_
  refine W.regionT [(0, true), (1, true)] (by kernel_rfl) ?_
  refine Plan.move_int rfl rfl <| Plan.cmpP (a := (bit67 : Int)) (b := (0 : Int)) (p := 0 ≤ bit67) rfl rfl rfl rfl icmp_ge <| Plan.nil (k73 _ _ ?_); clear k73
  by_cases hc74 : 0 ≤ bit67
  ·
   replace hR := ifT hR hc74
   refine W.condT (congrArg Value.bool (decide_eq_true hc74)) ?_
   refine W.skip ?_
   refine k72 _ _ ?_; clear k72
   refine W.seq_k fun _ k75 => ?_
   refine W.block ?_
   refine W.seq_k fun _ k76 => W.regionT [(0, true), (1, true), (2, false), (3, false)] (by kernel_rfl) ?_
   refine Plan.loadA1 h71 0 rfl rfl rfl FRef07.agg129 <| Plan.loadA1 h71 0 rfl rfl rfl FRef07.agg129 ?_
   obtain ⟨x_78, hr77, hR⟩ := hR
   refine Plan.call (vs := [AG [(10, fun q => .int .i64 (m68 q))], AG [(10, fun q => .int .i64 (m68 q))]]) rfl FRef07.call70 rfl (letheref07_Mul_ok  hr77 h71) ?_
   rintro _ w79 ⟨rfl, h79⟩
   refine ⟨_, rfl, .inr ⟨rfl, ?_⟩⟩
   refine Plan.storeA (f' := fun q => .int .i64 (x_78 q)) h79 0 rfl rfl rfl rfl (fun _ _ => rfl) FRef07.sz129 rfl fun w80 h80 => ?_
   simp only [zca, zna, zsz, zss] at h80
   refine Plan.nil (k76 _ _ ?_); clear k76
   refine W.seq_k fun _ k81 => W.regionT [(0, true), (1, true), (2, true), (3, true), (4, true), (5, true)] (by kernel_rfl) ?_
   refine Plan.move_int rfl rfl ?_
   by_cases hc82 : bit67 ≠ 2
   ·
    replace hR := ifT hR hc82
    refine Plan.cmpV (a := (bit67 : Int)) (b := (2 : Int)) (p := bit67 ≠ 2) (v := true) rfl rfl rfl rfl icmp_ne (decide_eq_true hc82) <| Plan.move_bool rfl rfl <| Plan.move_int rfl rfl <| Plan.cmpP (a := (bit67 : Int)) (b := (4 : Int)) (p := bit67 ≠ 4) rfl rfl rfl rfl icmp_ne <| Plan.pickTb rfl rfl rfl <| Plan.nil (k81 _ _ ?_); clear k81
    by_cases hc83 : bit67 ≠ 4
    ·
     replace hR := ifT hR hc83
     refine W.condT (congrArg Value.bool (decide_eq_true hc83)) ?_
     refine W.regionT [(0, true), (1, true), (2, false), (3, false)] (by kernel_rfl) ?_
     refine Plan.loadA1 h80 0 rfl rfl rfl FRef07.agg129 <| Plan.loadA1 h80 2 rfl rfl rfl FRef07.agg129 ?_
     obtain ⟨x_85, hr84, hR⟩ := hR
     refine Plan.call (vs := [AG [(10, fun q => .int .i64 (x_78 q))], AG [(10, fun q => .int .i64 (a1 q))]]) rfl FRef07.call70 rfl (letheref07_Mul_ok  hr84 h80) ?_
     rintro _ w86 ⟨rfl, h86⟩
     refine ⟨_, rfl, .inr ⟨rfl, ?_⟩⟩
     refine Plan.storeA (f' := fun q => .int .i64 (x_85 q)) h86 0 rfl rfl rfl rfl (fun _ _ => rfl) FRef07.sz129 rfl fun w87 h87 => ?_
     simp only [zca, zna, zsz, zss] at h87
     refine Plan.nil ?_
     refine blockR_norm ?_
     refine k75 _ _ ?_; clear k75
     refine W.regionT [(0, true), (1, true), (2, true)] (by kernel_rfl) ?_
     refine Plan.move_int rfl rfl ?_
     obtain ⟨hc88, hR⟩ := hR
     refine Plan.subI (a := bit67) (b := 1) rfl rfl rfl (by omega) <| Plan.assign_int rfl rfl <| Plan.nil ?_
     exact iterR_norm ⟨_, hR, (zer (zer (zer (zer zen)))), h87⟩
    ·
     replace hR := ifF hR hc83
     refine W.condF (congrArg Value.bool (decide_eq_false hc83)) ?_
     refine W.skip ?_
     refine blockR_norm ?_
     refine k75 _ _ ?_; clear k75
     refine W.regionT [(0, true), (1, true), (2, true)] (by kernel_rfl) ?_
     refine Plan.move_int rfl rfl <| Plan.subI (a := bit67) (b := 1) rfl rfl rfl (by omega) <| Plan.assign_int rfl rfl <| Plan.nil ?_
     exact iterR_norm ⟨_, hR, (zer (zer (zer (zer zen)))), h80⟩
   ·
    replace hR := ifF hR hc82
    refine Plan.cmpV (a := (bit67 : Int)) (b := (2 : Int)) (p := bit67 ≠ 2) (v := false) rfl rfl rfl rfl icmp_ne (decide_eq_false hc82) <| Plan.move_bool rfl rfl <| Plan.passed rfl <| Plan.passed rfl <| Plan.pickFb rfl rfl rfl <| Plan.nil (k81 _ _ ?_); clear k81
    refine W.condF rfl ?_
    refine W.skip ?_
    refine blockR_norm ?_
    refine k75 _ _ ?_; clear k75
    refine W.regionT [(0, true), (1, true), (2, true)] (by kernel_rfl) ?_
    refine Plan.move_int rfl rfl <| Plan.subI (a := bit67) (b := 1) rfl rfl rfl (by omega) <| Plan.assign_int rfl rfl <| Plan.nil ?_
    exact iterR_norm ⟨_, hR, (zer (zer (zer (zer zen)))), h80⟩
  ·
   replace hR := ifF hR hc74
   refine W.condF (congrArg Value.bool (decide_eq_false hc74)) ?_
   refine W.exit (thenR_exit (iterR_exit (blockR_here ?_)))
   have h89 := St.pickT (C := [_, _, _]) h71 [0, 1] (by decide)
   simp only [pick, zfc, zfn, zgz, zgs, zca, zna] at h89
   exact ⟨m68, (hx70 _ hR).symm, (zer (zer zen)), h89⟩
 ·
  rintro ev90 wl90 ⟨y_m69, hy90, he90, h90⟩
  obtain ⟨ev90, rfl⟩ := he90.open
  subst hy90
  replace hR := hR070
  refine k11 _ _ ?_; clear k11
  refine W.seq_k fun _ k91 => W.regionT [(0, true), (1, false)] (by kernel_rfl) ?_
  refine Plan.loadA1 h90 0 rfl rfl rfl FRef07.agg129 ?_
  refine Plan.storeA (f' := fun q => .int .i64 (m69 q)) h90 1 rfl rfl rfl rfl (fun _ _ => rfl) FRef07.sz129 rfl fun w92 h92 => ?_
  simp only [zca, zna, zsz, zss] at h92
  refine Plan.nil (k91 _ _ ?_); clear k91
  refine W.ret (finR_ret ?_)
  have h93 := St.pickT (C := [_, _]) h92 [] (by decide)
  simp only [pick, zfc, zfn, zgz, zgs, zca, zna] at h93
  subst r
  refine RetOk.mk (.agg h92 rfl (.cons 1 rfl .nil) FRef07.agg129 .nil) ?_
  exact ⟨rfl, h93⟩
theorem letheref07_write_ok {B : Nat} {w0 w : World} {L : List Rg} {n_1 : Nat → Int} {r : (Nat → BitVec 8)} (hR : letheref07_write n_1 r) (HST : St B w0 (L) w) :
  Calls Tryd.prog 71 #[AG [(10, fun q => .int .i64 (n_1 q))]] w fun e w' => e = .returned (AG [(32, fun q => VU .u8 (r q))]) ∧ St B w0 (L) w' := by
 refine W.enter 65 Tryd.func71 rfl rfl rfl ?_
 unfold letheref07_write at hR
 refine W.seq_k fun _ k2 => W.regionT [(0, false), (1, false)] (by kernel_rfl) ?_
 refine Plan.boxA HST rfl rfl PIn.nil fun b3 w3 hb3 h3 => ?_
 simp only [rngs, Nat.zero_add, Nat.reduceAdd, zca, zna] at h3
 refine Plan.alloc h3 rfl FRef07.z23 PIn.nil fun b4 w4 hb4 h4 => ?_
 simp only [rngs, Nat.zero_add, Nat.reduceAdd, zca, zna] at h4
 refine Plan.nil (k2 _ _ ?_); clear k2
 refine W.seq_k fun _ k5 => ?_
 obtain ⟨m38, hI39, hR039⟩ := hR
 refine W.cutN (fun e w => ∃ y_m38 : Nat → Int, m38 = y_m38 ∧ EnvHas e [(1, .pointer (some ⟨b3, 0, none⟩)), (2, .pointer (some ⟨b4, 0, none⟩))] ∧ St B w0 (⟨some b4, 0, 32, fun q => VU .u8 ((fun _ => 0#8) q), true⟩ :: ⟨some b3, 0, 10, fun q => .int .i64 (y_m38 q), true⟩ :: L) w) ?_ ?_
 ·
  refine W.block ?_
  refine W.iter hI39 (fun (s39 : (Nat → Int)) e w => EnvHas e [(1, .pointer (some ⟨b3, 0, none⟩)), (2, .pointer (some ⟨b4, 0, none⟩))] ∧ St B w0 (⟨some b4, 0, 32, fun q => VU .u8 ((fun _ => 0#8) q), true⟩ :: ⟨some b3, 0, 10, fun q => .int .i64 (s39 q), true⟩ :: L) w) ⟨(zer (zer zen)), h4⟩ ?_
  rintro m37 o39 hR hx39 ev40 wl40 ⟨he40, h40⟩
  obtain ⟨ev40, rfl⟩ := he40.open
  unfold letheref07_write_l0 at hR
  refine W.seq_k fun _ k41 => W.seq_k fun _ k42 => ?_
  refine W.regionT [(0, true), (1, true), (2, true)] (by kernel_rfl) ?_
  refine Plan.idxArr1 (j := 9) FRef07.arr129 rfl rfl rfl (by omega) <| Plan.load1 (j := 9) h40 1 rfl rfl rfl (by omega) FRef07.sc3 <| Plan.cmpP (a := ((m37 9) : Int)) (b := (2097152 : Int)) (p := 2097152 ≤ (m37 9)) rfl rfl rfl rfl icmp_ge <| Plan.nil (k42 _ _ ?_); clear k42
  by_cases hc43 : 2097152 ≤ (m37 9)
  ·
   replace hR := ifT hR hc43
   refine W.condT (congrArg Value.bool (decide_eq_true hc43)) ?_
   refine W.skip ?_
   refine k41 _ _ ?_; clear k41
   refine W.block ?_
   refine W.seq_k fun _ k44 => W.regionT [(0, true), (1, true), (2, true), (3, true)] (by kernel_rfl) ?_
   refine Plan.idxArr1 (j := 9) FRef07.arr129 rfl rfl rfl (by omega) <| Plan.load1 (j := 9) h40 1 rfl rfl rfl (by omega) FRef07.sc3 <| Plan.shrI (a := (m37 9)) (c := 21) rfl rfl rfl (by decide) <| Plan.assign_int rfl rfl <| Plan.nil (k44 _ _ ?_); clear k44
   refine W.seq_k fun _ k45 => W.regionT [(0, true), (1, true), (2, true), (3, true), (4, false)] (by kernel_rfl) ?_
   refine Plan.idxArr1 (j := 9) FRef07.arr129 rfl rfl rfl (by omega) <| Plan.load1 (j := 9) h40 1 rfl rfl rfl (by omega) FRef07.sc3 ?_
   have hb46 := tmod_bd (m37 9) (c := 2097152) (by decide)
   refine Plan.remI (a := (m37 9)) (b := 2097152) rfl rfl rfl (by omega) <| Plan.idxArr1 (j := 9) FRef07.arr129 rfl rfl rfl (by omega) ?_
   refine Plan.storeI (j := 9) (X := ((m37 9).tmod 2097152)) h40 1 rfl rfl rfl rfl (by omega) FRef07.sz3 rfl fun w47 h47 => ?_
   simp only [zca, zna, zsz, zss] at h47
   refine Plan.nil (k45 _ _ ?_); clear k45
   refine W.seq_k fun _ k48 => W.regionT [(0, true), (1, true), (2, true), (3, true), (4, true), (5, true), (6, false)] (by kernel_rfl) ?_
   refine Plan.idxArr1 (j := 0) FRef07.arr129 rfl rfl rfl (by omega) <| Plan.load1 (j := 0) h47 1 rfl rfl rfl (by omega) FRef07.sc3 <| Plan.move_int rfl rfl ?_
   obtain ⟨hc49, hR⟩ := hR
   refine Plan.mulI (a := 19) (b := ((m37 9) / 2 ^ 21)) rfl rfl rfl (by omega) ?_
   obtain ⟨hc50, hR⟩ := hR
   refine Plan.addI (a := ((upd m37 9 ((m37 9).tmod 2097152)) 0)) (b := (19 * ((m37 9) / 2 ^ 21))) rfl rfl rfl (by omega) <| Plan.idxArr1 (j := 0) FRef07.arr129 rfl rfl rfl (by omega) ?_
   refine Plan.storeI (j := 0) (X := (((upd m37 9 ((m37 9).tmod 2097152)) 0) + (19 * ((m37 9) / 2 ^ 21)))) h47 1 rfl rfl rfl rfl (by omega) FRef07.sz3 rfl fun w51 h51 => ?_
   simp only [zca, zna, zsz, zss] at h51
   refine Plan.nil (k48 _ _ ?_); clear k48
   refine W.regionT [(0, true), (1, false), (2, false)] (by kernel_rfl) ?_
   refine Plan.loadA1 h51 1 rfl rfl rfl FRef07.agg129 ?_
   obtain ⟨x_53, hr52, hR⟩ := hR
   refine Plan.call (vs := [AG [(10, fun q => .int .i64 ((upd (upd m37 9 ((m37 9).tmod 2097152)) 0 (((upd m37 9 ((m37 9).tmod 2097152)) 0) + (19 * ((m37 9) / 2 ^ 21)))) q))]]) rfl FRef07.call75 rfl (letheref07_carried_ok  hr52 h51) ?_
   rintro _ w54 ⟨rfl, h54⟩
   refine ⟨_, rfl, .inr ⟨rfl, ?_⟩⟩
   refine Plan.storeA (f' := fun q => .int .i64 (x_53 q)) h54 1 rfl rfl rfl rfl (fun _ _ => rfl) FRef07.sz129 rfl fun w55 h55 => ?_
   simp only [zca, zna, zsz, zss] at h55
   refine Plan.nil ?_
   refine blockR_norm ?_
   exact iterR_norm ⟨_, hR, (zer (zer zen)), h55⟩
  ·
   replace hR := ifF hR hc43
   refine W.condF (congrArg Value.bool (decide_eq_false hc43)) ?_
   refine W.exit (thenR_exit (iterR_exit (blockR_here ?_)))
   exact ⟨m37, (hx39 _ hR).symm, (zer (zer zen)), h40⟩
 ·
  rintro ev56 wl56 ⟨y_m38, hy56, he56, h56⟩
  obtain ⟨ev56, rfl⟩ := he56.open
  subst hy56
  replace hR := hR039
  refine k5 _ _ ?_; clear k5
  refine W.seq_k fun _ k57 => W.regionT [(0, true), (1, false), (2, false)] (by kernel_rfl) ?_
  refine Plan.loadA1 h56 1 rfl rfl rfl FRef07.agg129 ?_
  refine Plan.alloc h56 rfl FRef07.z129 (PIn.cons 1 rfl PIn.nil) fun b58 w58 hb58 h58 => ?_
  simp only [rngs, Nat.zero_add, Nat.reduceAdd, zca, zna] at h58
  refine Plan.storeA (f' := fun q => .int .i64 (m38 q)) h58 0 rfl rfl rfl rfl (fun _ _ => rfl) FRef07.sz129 rfl fun w59 h59 => ?_
  simp only [zca, zna, zsz, zss] at h59
  refine Plan.nil (k57 _ _ ?_); clear k57
  refine W.seq_k fun _ k60 => W.regionT [(0, true), (1, true), (2, true), (3, true), (4, false)] (by kernel_rfl) ?_
  refine Plan.idxArr1 (j := 0) FRef07.arr129 rfl rfl rfl (by omega) <| Plan.load1 (j := 0) h59 0 rfl rfl rfl (by omega) FRef07.sc3 ?_
  obtain ⟨hc61, hR⟩ := hR
  refine Plan.addI (a := (m38 0)) (b := 19) rfl rfl rfl (by omega) <| Plan.idxArr1 (j := 0) FRef07.arr129 rfl rfl rfl (by omega) ?_
  refine Plan.storeI (j := 0) (X := ((m38 0) + 19)) h59 0 rfl rfl rfl rfl (by omega) FRef07.sz3 rfl fun w62 h62 => ?_
  simp only [zca, zna, zsz, zss] at h62
  refine Plan.nil (k60 _ _ ?_); clear k60
  refine W.seq_k fun _ k63 => W.regionT [(0, true), (1, false), (2, false)] (by kernel_rfl) ?_
  refine Plan.loadA1 h62 0 rfl rfl rfl FRef07.agg129 ?_
  obtain ⟨x_65, hr64, hR⟩ := hR
  refine Plan.call (vs := [AG [(10, fun q => .int .i64 ((upd m38 0 ((m38 0) + 19)) q))]]) rfl FRef07.call75 rfl (letheref07_carried_ok  hr64 h62) ?_
  rintro _ w66 ⟨rfl, h66⟩
  refine ⟨_, rfl, .inr ⟨rfl, ?_⟩⟩
  refine Plan.storeA (f' := fun q => .int .i64 (x_65 q)) h66 0 rfl rfl rfl rfl (fun _ _ => rfl) FRef07.sz129 rfl fun w67 h67 => ?_
  simp only [zca, zna, zsz, zss] at h67
  refine Plan.nil (k63 _ _ ?_); clear k63
  refine W.seq_k fun _ k68 => ?_
  obtain ⟨m75, hX76, hR076⟩ := hR
  refine W.cutN (fun e w => ∃ y_m75 : Nat → Int, (m75 = y_m75) ∧ EnvHas e [(1, .pointer (some ⟨b3, 0, none⟩)), (2, .pointer (some ⟨b4, 0, none⟩))] ∧ St B w0 (⟨some b4, 0, 32, fun q => VU .u8 ((fun _ => 0#8) q), true⟩ :: ⟨some b3, 0, 10, fun q => .int .i64 (y_m75 q), true⟩ :: L) w) ?_ ?_
  ·
   replace hR := hX76
   refine W.seq_k fun _ k77 => W.regionT [(0, true), (1, true), (2, true)] (by kernel_rfl) ?_
   refine Plan.idxArr1 (j := 9) FRef07.arr129 rfl rfl rfl (by omega) <| Plan.load1 (j := 9) h67 0 rfl rfl rfl (by omega) FRef07.sc3 <| Plan.cmpP (a := ((x_65 9) : Int)) (b := (2097152 : Int)) (p := 2097152 ≤ (x_65 9)) rfl rfl rfl rfl icmp_ge <| Plan.nil (k77 _ _ ?_); clear k77
   by_cases hc78 : 2097152 ≤ (x_65 9)
   ·
    replace hR := ifT hR hc78
    refine W.condT (congrArg Value.bool (decide_eq_true hc78)) ?_
    refine W.seq_k fun _ k79 => W.regionT [(0, true), (1, false)] (by kernel_rfl) ?_
    refine Plan.loadA1 h67 0 rfl rfl rfl FRef07.agg129 ?_
    refine Plan.storeA (f' := fun q => .int .i64 (x_65 q)) h67 2 rfl rfl rfl rfl (fun _ _ => rfl) FRef07.sz129 rfl fun w80 h80 => ?_
    simp only [zca, zna, zsz, zss] at h80
    refine Plan.nil (k79 _ _ ?_); clear k79
    refine W.regionT [(0, true), (1, true), (2, true), (3, true), (4, false)] (by kernel_rfl) ?_
    refine Plan.idxArr1 (j := 9) FRef07.arr129 rfl rfl rfl (by omega) <| Plan.load1 (j := 9) h80 2 rfl rfl rfl (by omega) FRef07.sc3 ?_
    obtain ⟨hc81, hR⟩ := hR
    refine Plan.subI (a := (x_65 9)) (b := 2097152) rfl rfl rfl (by omega) <| Plan.idxArr1 (j := 9) FRef07.arr129 rfl rfl rfl (by omega) ?_
    refine Plan.storeI (j := 9) (X := ((x_65 9) - 2097152)) h80 2 rfl rfl rfl rfl (by omega) FRef07.sz3 rfl fun w82 h82 => ?_
    simp only [zca, zna, zsz, zss] at h82
    refine Plan.nil ?_
    have h83 := St.pickT (C := [_, _, _]) h82 [1, 2] (by decide)
    simp only [pick, zfc, zfn, zgz, zgs, zca, zna] at h83
    exact ⟨(upd x_65 9 ((x_65 9) - 2097152)), hR, (zer (zer zen)), h83⟩
   ·
    replace hR := ifF hR hc78
    refine W.condF (congrArg Value.bool (decide_eq_false hc78)) ?_
    refine W.skip ?_
    have h84 := St.pickT (C := [_, _, _]) h67 [1, 2] (by decide)
    simp only [pick, zfc, zfn, zgz, zgs, zca, zna] at h84
    exact ⟨m38, hR, (zer (zer zen)), h84⟩
  ·
   rintro ev85 wl85 ⟨y_m75, hy85_0, he85, h85⟩
   subst hy85_0
   obtain ⟨ev85, rfl⟩ := he85.open
   replace hR := hR076
   refine k68 _ _ ?_; clear k68
   refine W.seq_k fun _ k86 => W.regionT [(0, false)] (by kernel_rfl) ?_
   refine Plan.alloc h85 rfl FRef07.z23 PIn.nil fun b87 w87 hb87 h87 => ?_
   simp only [rngs, Nat.zero_add, Nat.reduceAdd, zca, zna] at h87
   refine Plan.nil (k86 _ _ ?_); clear k86
   refine W.seq_k fun _ k88 => W.seq_k fun _ k89 => ?_
   refine W.regionT [(0, true)] (by kernel_rfl) ?_
   refine Plan.assign_int rfl rfl <| Plan.nil (k89 _ _ ?_); clear k89
   obtain ⟨m114, hI115, hR0115⟩ := hR
   refine W.cutN (fun e w => ∃ y_m114 : Nat → BitVec 8, m114 = y_m114 ∧ EnvHas e [(2, .pointer (some ⟨b4, 0, none⟩)), (5, .pointer (some ⟨b87, 0, none⟩))] ∧ St B w0 (⟨some b87, 0, 32, fun q => VU .u8 (y_m114 q), true⟩ :: ⟨some b4, 0, 32, fun q => VU .u8 ((fun _ => 0#8) q), true⟩ :: L) w) ?_ ?_
   ·
    refine W.block ?_
    refine W.iter hI115 (fun (s115 : (Nat × (Nat → BitVec 8))) e w => EnvHas e [(1, .pointer (some ⟨b3, 0, none⟩)), (2, .pointer (some ⟨b4, 0, none⟩)), (5, .pointer (some ⟨b87, 0, none⟩)), (6, VN s115.1)] ∧ St B w0 (⟨some b87, 0, 32, fun q => VU .u8 (s115.2 q), true⟩ :: ⟨some b4, 0, 32, fun q => VU .u8 ((fun _ => 0#8) q), true⟩ :: ⟨some b3, 0, 10, fun q => .int .i64 (m75 q), true⟩ :: L) w) ⟨(zer (zer (zer (zer zen)))), h87⟩ ?_
    rintro ⟨i_112, m113⟩ o115 hR hx115 ev116 wl116 ⟨he116, h116⟩
    obtain ⟨ev116, rfl⟩ := he116.open
    unfold letheref07_write_l1 at hR
    refine W.seq_k fun _ k117 => W.seq_k fun _ k118 => ?_
    refine W.regionT [(0, true), (1, true)] (by kernel_rfl) ?_
    refine Plan.move_int rfl rfl <| Plan.cmpP (a := (((i_112 : Nat) : Int) : Int)) (b := (255 : Int)) (p := i_112 < 255) rfl rfl rfl rfl icmp_ltN <| Plan.nil (k118 _ _ ?_); clear k118
    by_cases hc119 : i_112 < 255
    ·
     replace hR := ifT hR hc119
     refine W.condT (congrArg Value.bool (decide_eq_true hc119)) ?_
     refine W.skip ?_
     refine k117 _ _ ?_; clear k117
     refine W.seq_k fun _ k120 => ?_
     refine W.block ?_
     refine W.seq_k fun _ k121 => W.regionT [(0, true), (1, true), (2, true), (3, true), (4, true), (5, true), (6, true), (7, true), (8, true)] (by kernel_rfl) ?_
     refine Plan.move_int rfl rfl <| Plan.quoN (a := i_112) (b := 26) rfl rfl rfl (by omega) <| Plan.idxArr1 (j := (i_112 / 26)) FRef07.arr129 rfl rfl rfl (by omega) <| Plan.load1 (j := (i_112 / 26)) h116 2 rfl rfl rfl (by omega) FRef07.sc3 <| Plan.move_int rfl rfl <| Plan.remN (a := i_112) (b := 26) rfl rfl rfl (by omega) ?_
     obtain ⟨hc122, hR⟩ := hR
     refine Plan.shrI (a := (m75 (i_112 / 26))) (c := (i_112 % 26)) rfl rfl rfl hc122 ?_
     have hb123 := tmod_bd ((m75 (i_112 / 26)) / 2 ^ (i_112 % 26)) (c := 2) (by decide)
     refine Plan.remI (a := ((m75 (i_112 / 26)) / 2 ^ (i_112 % 26))) (b := 2) rfl rfl rfl (by omega) <| Plan.cmpP (a := ((((m75 (i_112 / 26)) / 2 ^ (i_112 % 26)).tmod 2) : Int)) (b := (1 : Int)) (p := (((m75 (i_112 / 26)) / 2 ^ (i_112 % 26)).tmod 2) = 1) rfl rfl rfl rfl icmp_eq <| Plan.nil (k121 _ _ ?_); clear k121
     by_cases hc124 : (((m75 (i_112 / 26)) / 2 ^ (i_112 % 26)).tmod 2) = 1
     ·
      replace hR := ifT hR hc124
      refine W.condT (congrArg Value.bool (decide_eq_true hc124)) ?_
      refine W.regionD FRef07.mixed [(0, true), (1, true), (2, true), (3, true), (4, true), (5, true), (6, true), (7, true), (8, true), (9, true), (10, true), (11, false)] (by kernel_rfl) ?_
      have h125 := h116.drew
      refine Plan.move_int rfl rfl <| Plan.quoN (a := i_112) (b := 8) rfl rfl rfl (by omega) <| Plan.move_int rfl rfl <| Plan.quoN (a := i_112) (b := 8) rfl rfl rfl (by omega) <| Plan.idxArr1 (j := (i_112 / 8)) FRef07.arr23 rfl rfl rfl (by omega) <| Plan.load1 (j := (i_112 / 8)) h125 0 rfl rfl rfl (by omega) FRef07.sc5 <| Plan.move_int rfl rfl <| Plan.remN (a := i_112) (b := 8) rfl rfl rfl (by omega) ?_
      refine Plan.shlU .u8 (X := 1#8) (c := (i_112 % 8)) rfl rfl rfl <| Plan.addU .u8 (X := (m113 (i_112 / 8))) (Y := ((1#8) <<< (i_112 % 8))) rfl rfl rfl <| Plan.idxArr1 (j := (i_112 / 8)) FRef07.arr23 rfl rfl rfl (by omega) ?_
      refine Plan.storeU (j := (i_112 / 8)) (X := ((m113 (i_112 / 8)) + ((1#8) <<< (i_112 % 8)))) h125 0 rfl rfl rfl rfl (by omega) FRef07.sz5 rfl fun w126 h126 => ?_
      simp only [zca, zna, zsz, zss] at h126
      refine Plan.nil ?_
      refine blockR_norm ?_
      refine k120 _ _ ?_; clear k120
      refine W.regionT [(0, true), (1, true), (2, true)] (by kernel_rfl) ?_
      refine Plan.move_int rfl rfl <| Plan.addN (a := i_112) (b := 1) rfl rfl rfl (by omega) <| Plan.assign_int rfl rfl <| Plan.nil ?_
      exact iterR_norm ⟨_, hR, (zer (zer (zer (zer zen)))), h126⟩
     ·
      replace hR := ifF hR hc124
      refine W.condF (congrArg Value.bool (decide_eq_false hc124)) ?_
      refine W.skip ?_
      refine blockR_norm ?_
      refine k120 _ _ ?_; clear k120
      refine W.regionT [(0, true), (1, true), (2, true)] (by kernel_rfl) ?_
      refine Plan.move_int rfl rfl <| Plan.addN (a := i_112) (b := 1) rfl rfl rfl (by omega) <| Plan.assign_int rfl rfl <| Plan.nil ?_
      exact iterR_norm ⟨_, hR, (zer (zer (zer (zer zen)))), h116⟩
    ·
     replace hR := ifF hR hc119
     refine W.condF (congrArg Value.bool (decide_eq_false hc119)) ?_
     refine W.exit (thenR_exit (iterR_exit (blockR_here ?_)))
     have h127 := St.pickT (C := [_, _, _]) h116 [0, 1] (by decide)
     simp only [pick, zfc, zfn, zgz, zgs, zca, zna] at h127
     exact ⟨m113, (hx115 _ hR).symm, (zer (zer zen)), h127⟩
   ·
    rintro ev128 wl128 ⟨y_m114, hy128, he128, h128⟩
    obtain ⟨ev128, rfl⟩ := he128.open
    subst hy128
    replace hR := hR0115
    refine k88 _ _ ?_; clear k88
    refine W.seq_k fun _ k129 => W.regionT [(0, true), (1, false)] (by kernel_rfl) ?_
    refine Plan.loadA1 h128 0 rfl rfl rfl FRef07.agg23 ?_
    refine Plan.storeA (f' := fun q => VU .u8 (m114 q)) h128 1 rfl rfl rfl rfl (fun _ _ => rfl) FRef07.sz23 rfl fun w130 h130 => ?_
    simp only [zca, zna, zsz, zss] at h130
    refine Plan.nil (k129 _ _ ?_); clear k129
    refine W.ret (finR_ret ?_)
    have h131 := St.pickT (C := [_, _]) h130 [] (by decide)
    simp only [pick, zfc, zfn, zgz, zgs, zca, zna] at h131
    subst r
    refine RetOk.mk (.agg h130 rfl (.cons 1 rfl .nil) FRef07.agg23 .nil) ?_
    exact ⟨rfl, h131⟩
theorem letheref07_Times_ok {B : Nat} {w0 w : World} {L : List Rg} {scalar1 : Nat → BitVec 8} {u2 : Nat → BitVec 8} {r : (Nat → BitVec 8)} (hR : letheref07_Times scalar1 u2 r) (HST : St B w0 (L) w) :
  Calls Tryd.prog 59 #[AG [(32, fun q => VU .u8 (scalar1 q))], AG [(32, fun q => VU .u8 (u2 q))]] w fun e w' => e = .returned (AG [(32, fun q => VU .u8 (r q))]) ∧ St B w0 (L) w' := by
 refine W.enter 106 Tryd.func59 rfl rfl rfl ?_
 unfold letheref07_Times at hR
 refine W.seq_k fun _ k3 => W.regionT [(0, false), (1, false), (2, false)] (by kernel_rfl) ?_
 refine Plan.boxA HST rfl rfl PIn.nil fun b4 w4 hb4 h4 => ?_
 simp only [rngs, Nat.zero_add, Nat.reduceAdd, zca, zna] at h4
 refine Plan.boxA h4 rfl rfl PIn.nil fun b5 w5 hb5 h5 => ?_
 simp only [rngs, Nat.zero_add, Nat.reduceAdd, zca, zna] at h5
 refine Plan.alloc h5 rfl FRef07.z23 PIn.nil fun b6 w6 hb6 h6 => ?_
 simp only [rngs, Nat.zero_add, Nat.reduceAdd, zca, zna] at h6
 refine Plan.nil (k3 _ _ ?_); clear k3
 refine W.seq_k fun _ k7 => W.regionT [(0, true), (1, false), (2, false), (3, false)] (by kernel_rfl) ?_
 refine Plan.loadA1 h6 2 rfl rfl rfl FRef07.agg23 ?_
 obtain ⟨x_9, hr8, hR⟩ := hR
 refine Plan.call (vs := [AG [(32, fun q => VU .u8 (scalar1 q))]]) rfl FRef07.call64 rfl (letheref07_Clamp_ok  hr8 h6) ?_
 rintro _ w10 ⟨rfl, h10⟩
 refine ⟨_, rfl, .inr ⟨rfl, ?_⟩⟩
 refine Plan.alloc h10 rfl FRef07.z23 PIn.nil fun b11 w11 hb11 h11 => ?_
 simp only [rngs, Nat.zero_add, Nat.reduceAdd, zca, zna] at h11
 refine Plan.storeA (f' := fun q => VU .u8 (x_9 q)) h11 0 rfl rfl rfl rfl (fun _ _ => rfl) FRef07.sz23 rfl fun w12 h12 => ?_
 simp only [zca, zna, zsz, zss] at h12
 refine Plan.nil (k7 _ _ ?_); clear k7
 refine W.seq_k fun _ k13 => W.regionT [(0, true), (1, false), (2, false), (3, false)] (by kernel_rfl) ?_
 refine Plan.loadA1 h12 2 rfl rfl rfl FRef07.agg23 ?_
 obtain ⟨x_15, hr14, hR⟩ := hR
 refine Plan.call (vs := [AG [(32, fun q => VU .u8 (u2 q))]]) rfl FRef07.call65 rfl (letheref07_read_ok  hr14 h12) ?_
 rintro _ w16 ⟨rfl, h16⟩
 refine ⟨_, rfl, .inr ⟨rfl, ?_⟩⟩
 refine Plan.alloc h16 rfl FRef07.z129 PIn.nil fun b17 w17 hb17 h17 => ?_
 simp only [rngs, Nat.zero_add, Nat.reduceAdd, zca, zna] at h17
 refine Plan.storeA (f' := fun q => .int .i64 (x_15 q)) h17 0 rfl rfl rfl rfl (fun _ _ => rfl) FRef07.sz129 rfl fun w18 h18 => ?_
 simp only [zca, zna, zsz, zss] at h18
 refine Plan.nil (k13 _ _ ?_); clear k13
 refine W.seq_k fun _ k19 => ?_
 refine W.regionX (B := B) (w0 := w0) (L := L) FRef07.mixed [⟨4, 7, 129, [(10, fun q => .int .i64 ((fun _ => (0 : Int)) q))]⟩, ⟨5, 8, 129, [(10, fun q => .int .i64 ((fun _ => (0 : Int)) q))]⟩, ⟨6, 9, 129, [(10, fun q => .int .i64 ((fun _ => (0 : Int)) q))]⟩, ⟨7, 10, 129, [(10, fun q => .int .i64 ((fun _ => (0 : Int)) q))]⟩] [(2, true)] [[(0, false)], [(1, false)], [(3, false)]] [(8, false), (9, false), (10, false), (11, false)] (by kernel_rfl) (by kernel_rfl) (.cons FRef07.z129 (.cons FRef07.z129 (.cons FRef07.z129 (.cons FRef07.z129 .nil)))) ?_
 have h20 := h18.drew
 refine Plan.loadA1 h20 0 rfl rfl rfl FRef07.agg129 ?_
 refine Plan.nil ⟨[_, _, _, _, _], h20, (PIn.cons 0 rfl PIn.nil), ?_⟩
 refine PX.step fun C21 z21 w21 h21 => ?_
 simp only [zca, zna] at h21
 obtain ⟨x_23, hr22, hR⟩ := hR
 refine Plan.call (vs := [VN 1]) rfl FRef07.call66 rfl (letheref07_of_ok  hr22 h21) ?_
 rintro _ w24 ⟨rfl, h24⟩
 refine ⟨_, rfl, .inl ⟨PIn.keep (PIn.cons 0 rfl PIn.nil) h24, ?_⟩⟩
 refine Plan.nil ⟨[_, _, _, _, _], h24, (PIn.cons 0 rfl PIn.nil), ?_⟩
 refine PX.step fun C25 z25 w25 h25 => ?_
 simp only [zca, zna] at h25
 obtain ⟨x_27, hr26, hR⟩ := hR
 refine Plan.call (vs := [VN 0]) rfl FRef07.call66 rfl (letheref07_of_ok  hr26 h25) ?_
 rintro _ w28 ⟨rfl, h28⟩
 refine ⟨_, rfl, .inl ⟨PIn.keep (PIn.cons 0 rfl PIn.nil) h28, ?_⟩⟩
 refine Plan.nil ⟨[_, _, _, _, _], h28, (PIn.cons 0 rfl PIn.nil), ?_⟩
 refine PX.step fun C29 z29 w29 h29 => ?_
 simp only [zca, zna] at h29
 obtain ⟨x_31, hr30, hR⟩ := hR
 refine Plan.call (vs := [VN 1]) rfl FRef07.call66 rfl (letheref07_of_ok  hr30 h29) ?_
 rintro _ w32 ⟨rfl, h32⟩
 refine ⟨_, rfl, .inl ⟨PIn.keep (PIn.cons 0 rfl PIn.nil) h32, ?_⟩⟩
 refine Plan.nil ⟨[_, _, _, _, _], h32, (PIn.cons 0 rfl PIn.nil), ?_⟩
 refine PX.done (KE.step fun b33_4 => (KE.step fun b33_5 => (KE.step fun b33_6 => (KE.step fun b33_7 => (KE.fin fun w33 h33 => ?_)))))
 simp only [rngs, Nat.zero_add, Nat.reduceAdd, zca, zna] at h33
 refine Plan.storeP (ps := [(10, fun q => .int .i64 (x_23 q))]) h33 rfl rfl rfl (.cons 5 rfl .nil) ⟨fun _ _ => rfl, trivial⟩ FRef07.sz129 (EffO.keep (PIn.cons 0 rfl PIn.nil)) fun w34 h34 => ?_
 simp only [zca, zna, zsz, zss] at h34
 refine Plan.storeP (ps := [(10, fun q => .int .i64 (x_27 q))]) h34 rfl rfl rfl (.cons 6 rfl .nil) ⟨fun _ _ => rfl, trivial⟩ FRef07.sz129 (EffO.keep (PIn.cons 0 rfl PIn.nil)) fun w35 h35 => ?_
 simp only [zca, zna, zsz, zss] at h35
 refine Plan.storeA (f' := fun q => .int .i64 (x_15 q)) h35 7 rfl rfl rfl rfl (fun _ _ => rfl) FRef07.sz129 rfl fun w36 h36 => ?_
 simp only [zca, zna, zsz, zss] at h36
 refine Plan.storeA (f' := fun q => .int .i64 (x_31 q)) h36 8 rfl rfl rfl rfl (fun _ _ => rfl) FRef07.sz129 rfl fun w37 h37 => ?_
 simp only [zca, zna, zsz, zss] at h37
 refine Plan.nil (k19 _ _ ?_); clear k19
 refine W.seq_k fun _ k38 => W.seq_k fun _ k39 => ?_
 refine W.regionT [(0, true)] (by kernel_rfl) ?_
 refine Plan.assign_int rfl rfl <| Plan.nil (k39 _ _ ?_); clear k39
 obtain ⟨m473, m474, hI475, hR0475⟩ := hR
 refine W.cutN (fun e w => ∃ y_m473 : Nat → Int, ∃ y_m474 : Nat → Int, (m473, m474) = (y_m473, y_m474) ∧ EnvHas e [(4, .pointer (some ⟨b6, 0, none⟩)), (7, .pointer (some ⟨b33_4, 0, none⟩)), (8, .pointer (some ⟨b33_5, 0, none⟩))] ∧ St B w0 (⟨some b6, 0, 32, fun q => VU .u8 ((fun _ => 0#8) q), true⟩ :: ⟨some b33_4, 0, 10, fun q => .int .i64 (y_m473 q), true⟩ :: ⟨some b33_5, 0, 10, fun q => .int .i64 (y_m474 q), true⟩ :: L) w) ?_ ?_
 ·
  refine W.block ?_
  have h476 := St.pickT (C := [_, _, _, _, _, _, _, _, _]) h37 [0, 1, 2, 5, 6, 7, 8] (by decide)
  simp only [pick, zfc, zfn, zgz, zgs, zca, zna] at h476
  refine W.iter hI475 (fun (s475 : (Int × (Nat → Int) × (Nat → Int) × (Nat → Int) × (Nat → Int))) e w => EnvHas e [(4, .pointer (some ⟨b6, 0, none⟩)), (5, .pointer (some ⟨b11, 0, none⟩)), (6, .pointer (some ⟨b17, 0, none⟩)), (7, .pointer (some ⟨b33_4, 0, none⟩)), (8, .pointer (some ⟨b33_5, 0, none⟩)), (9, .pointer (some ⟨b33_6, 0, none⟩)), (10, .pointer (some ⟨b33_7, 0, none⟩)), (11, .int .i64 s475.1)] ∧ St B w0 (⟨some b17, 0, 10, fun q => .int .i64 (x_15 q), true⟩ :: ⟨some b11, 0, 32, fun q => VU .u8 (x_9 q), true⟩ :: ⟨some b6, 0, 32, fun q => VU .u8 ((fun _ => 0#8) q), true⟩ :: ⟨some b33_4, 0, 10, fun q => .int .i64 (s475.2.1 q), true⟩ :: ⟨some b33_5, 0, 10, fun q => .int .i64 (s475.2.2.1 q), true⟩ :: ⟨some b33_6, 0, 10, fun q => .int .i64 (s475.2.2.2.1 q), true⟩ :: ⟨some b33_7, 0, 10, fun q => .int .i64 (s475.2.2.2.2 q), true⟩ :: L) w) ⟨(zer (zer (zer (zer (zer (zer (zer (zer zen)))))))), h476⟩ ?_
  rintro ⟨i_468, m469, m470, m471, m472⟩ o475 hR hx475 ev477 wl477 ⟨he477, h477⟩
  obtain ⟨ev477, rfl⟩ := he477.open
  unfold letheref07_Times_l0 at hR
  refine W.seq_k fun _ k478 => W.seq_k fun _ k479 => ?_
  refine W.regionT [(0, true), (1, true)] (by kernel_rfl) ?_
  refine Plan.move_int rfl rfl <| Plan.cmpP (a := (i_468 : Int)) (b := (0 : Int)) (p := 0 ≤ i_468) rfl rfl rfl rfl icmp_ge <| Plan.nil (k479 _ _ ?_); clear k479
  by_cases hc480 : 0 ≤ i_468
  ·
   replace hR := ifT hR hc480
   refine W.condT (congrArg Value.bool (decide_eq_true hc480)) ?_
   refine W.skip ?_
   refine k478 _ _ ?_; clear k478
   refine W.seq_k fun _ k481 => ?_
   refine W.block ?_
   refine W.seq_k fun _ k482 => W.regionT [(0, true), (1, true), (2, false), (3, true), (4, true)] (by kernel_rfl) ?_
   refine Plan.loadA1 h477 1 rfl rfl rfl FRef07.agg23 <| Plan.move_int rfl rfl ?_
   obtain ⟨x_484, hr483, hR⟩ := hR
   refine Plan.call (vs := [AG [(32, fun q => VU .u8 (x_9 q))], .int .i64 i_468]) rfl FRef07.call67 rfl (letheref07_bit_ok  hr483 h477) ?_
   rintro _ w485 ⟨rfl, h485⟩
   refine ⟨_, rfl, .inr ⟨rfl, ?_⟩⟩
   refine Plan.cmpP (a := (((x_484 : Nat) : Int) : Int)) (b := (1 : Int)) (p := x_484 = 1) rfl rfl rfl rfl icmp_eqN <| Plan.assign_bool rfl rfl <| Plan.nil (k482 _ _ ?_); clear k482
   refine W.seq_k fun _ k486 => ?_
   obtain ⟨m494, m495, m496, m497, hX498, hR0498⟩ := hR
   refine W.cutN (fun e w => ∃ y_m494 : Nat → Int, ∃ y_m495 : Nat → Int, ∃ y_m496 : Nat → Int, ∃ y_m497 : Nat → Int, (m494 = y_m494 ∧ m495 = y_m495 ∧ m496 = y_m496 ∧ m497 = y_m497) ∧ EnvHas e [(4, .pointer (some ⟨b6, 0, none⟩)), (5, .pointer (some ⟨b11, 0, none⟩)), (6, .pointer (some ⟨b17, 0, none⟩)), (7, .pointer (some ⟨b33_4, 0, none⟩)), (8, .pointer (some ⟨b33_5, 0, none⟩)), (9, .pointer (some ⟨b33_6, 0, none⟩)), (10, .pointer (some ⟨b33_7, 0, none⟩)), (11, .int .i64 i_468), (12, .bool (decide (x_484 = 1)))] ∧ St B w0 (⟨some b17, 0, 10, fun q => .int .i64 (x_15 q), true⟩ :: ⟨some b11, 0, 32, fun q => VU .u8 (x_9 q), true⟩ :: ⟨some b6, 0, 32, fun q => VU .u8 ((fun _ => 0#8) q), true⟩ :: ⟨some b33_4, 0, 10, fun q => .int .i64 (y_m494 q), true⟩ :: ⟨some b33_5, 0, 10, fun q => .int .i64 (y_m495 q), true⟩ :: ⟨some b33_6, 0, 10, fun q => .int .i64 (y_m496 q), true⟩ :: ⟨some b33_7, 0, 10, fun q => .int .i64 (y_m497 q), true⟩ :: L) w) ?_ ?_
   ·
    replace hR := hX498
    refine W.seq_k fun _ k499 => W.regionT [(0, true)] (by kernel_rfl) ?_
    refine Plan.move_bool rfl rfl <| Plan.nil (k499 _ _ ?_); clear k499
    by_cases hc500 : x_484 = 1
    ·
     replace hR := ifT hR hc500
     refine W.condT (congrArg Value.bool (decide_eq_true hc500)) ?_
     refine W.regionD FRef07.mixed [(0, true), (1, true), (2, true), (3, true), (4, false), (5, false), (6, false), (7, false)] (by kernel_rfl) ?_
     have h501 := h485.drew
     refine Plan.loadA1 h501 5 rfl rfl rfl FRef07.agg129 <| Plan.loadA1 h501 6 rfl rfl rfl FRef07.agg129 <| Plan.loadA1 h501 3 rfl rfl rfl FRef07.agg129 <| Plan.loadA1 h501 4 rfl rfl rfl FRef07.agg129 ?_
     refine Plan.storeP (ps := [(10, fun q => .int .i64 (m471 q))]) h501 rfl rfl rfl (.cons 3 rfl .nil) ⟨fun _ _ => rfl, trivial⟩ FRef07.sz129 (EffO.mix _ (Filt.drop rfl (Filt.drop rfl (Filt.keep rfl (Filt.drop rfl Filt.nil)))) (PIn.cons 6 rfl PIn.nil)) fun w502 h502 => ?_
     simp only [zca, zna, zsz, zss] at h502
     refine Plan.storeA (f' := fun q => .int .i64 (m472 q)) h502 4 rfl rfl rfl rfl (fun _ _ => rfl) FRef07.sz129 rfl fun w503 h503 => ?_
     simp only [zca, zna, zsz, zss] at h503
     refine Plan.storeA (f' := fun q => .int .i64 (m469 q)) h503 5 rfl rfl rfl rfl (fun _ _ => rfl) FRef07.sz129 rfl fun w504 h504 => ?_
     simp only [zca, zna, zsz, zss] at h504
     refine Plan.storeA (f' := fun q => .int .i64 (m470 q)) h504 6 rfl rfl rfl rfl (fun _ _ => rfl) FRef07.sz129 rfl fun w505 h505 => ?_
     simp only [zca, zna, zsz, zss] at h505
     refine Plan.nil ?_
     exact ⟨m471, m472, m469, m470, hR, (zer (zer (zer (zer (zer (zer (zer (zer (zer zen))))))))), h505⟩
    ·
     replace hR := ifF hR hc500
     refine W.condF (congrArg Value.bool (decide_eq_false hc500)) ?_
     refine W.skip ?_
     exact ⟨m469, m470, m471, m472, hR, (zer (zer (zer (zer (zer (zer (zer (zer (zer zen))))))))), h485⟩
   ·
    rintro ev506 wl506 ⟨y_m494, y_m495, y_m496, y_m497, ⟨hy506_0, hy506_1, hy506_2, hy506_3⟩, he506, h506⟩
    subst hy506_0
    subst hy506_1
    subst hy506_2
    subst hy506_3
    obtain ⟨ev506, rfl⟩ := he506.open
    replace hR := hR0498
    refine k486 _ _ ?_; clear k486
    refine W.seq_k fun _ k507 => ?_
    refine W.regionX (B := B) (w0 := w0) (L := L) FRef07.mixed [⟨12, 13, 129, [(10, fun q => .int .i64 ((fun _ => (0 : Int)) q))]⟩, ⟨13, 14, 129, [(10, fun q => .int .i64 ((fun _ => (0 : Int)) q))]⟩, ⟨14, 15, 129, [(10, fun q => .int .i64 ((fun _ => (0 : Int)) q))]⟩, ⟨15, 16, 129, [(10, fun q => .int .i64 ((fun _ => (0 : Int)) q))]⟩] [(0, true), (1, true), (3, true), (4, true), (6, true), (7, true), (9, true), (10, true)] [[(2, false)], [(5, false)], [(8, false)], [(11, false)]] [(16, false), (17, false), (18, false), (19, false)] (by kernel_rfl) (by kernel_rfl) (.cons FRef07.z129 (.cons FRef07.z129 (.cons FRef07.z129 (.cons FRef07.z129 .nil)))) ?_
    have h508 := h506.drew
    refine Plan.loadA1 h508 3 rfl rfl rfl FRef07.agg129 <| Plan.loadA1 h508 4 rfl rfl rfl FRef07.agg129 <| Plan.loadA1 h508 3 rfl rfl rfl FRef07.agg129 <| Plan.loadA1 h508 4 rfl rfl rfl FRef07.agg129 <| Plan.loadA1 h508 5 rfl rfl rfl FRef07.agg129 <| Plan.loadA1 h508 6 rfl rfl rfl FRef07.agg129 <| Plan.loadA1 h508 5 rfl rfl rfl FRef07.agg129 <| Plan.loadA1 h508 6 rfl rfl rfl FRef07.agg129 ?_
    refine Plan.nil ⟨[_, _, _, _, _, _, _], h508, (PIn.cons 6 rfl (PIn.cons 5 rfl (PIn.cons 6 rfl (PIn.cons 5 rfl (PIn.cons 4 rfl (PIn.cons 3 rfl (PIn.cons 4 rfl (PIn.cons 3 rfl PIn.nil)))))))), ?_⟩
    refine PX.step fun C509 z509 w509 h509 => ?_
    simp only [zca, zna] at h509
    obtain ⟨x_511, hr510, hR⟩ := hR
    refine Plan.call (vs := [AG [(10, fun q => .int .i64 (m494 q))], AG [(10, fun q => .int .i64 (m495 q))]]) rfl FRef07.call68 rfl (letheref07_Add_ok  hr510 h509) ?_
    rintro _ w512 ⟨rfl, h512⟩
    refine ⟨_, rfl, .inl ⟨PIn.keep (PIn.cons 6 rfl (PIn.cons 5 rfl (PIn.cons 6 rfl (PIn.cons 5 rfl (PIn.cons 4 rfl (PIn.cons 3 rfl (PIn.cons 4 rfl (PIn.cons 3 rfl PIn.nil)))))))) h512, ?_⟩⟩
    refine Plan.nil ⟨[_, _, _, _, _, _, _], h512, (PIn.cons 6 rfl (PIn.cons 5 rfl (PIn.cons 6 rfl (PIn.cons 5 rfl (PIn.cons 4 rfl (PIn.cons 3 rfl (PIn.cons 4 rfl (PIn.cons 3 rfl PIn.nil)))))))), ?_⟩
    refine PX.step fun C513 z513 w513 h513 => ?_
    simp only [zca, zna] at h513
    obtain ⟨x_515, hr514, hR⟩ := hR
    refine Plan.call (vs := [AG [(10, fun q => .int .i64 (m494 q))], AG [(10, fun q => .int .i64 (m495 q))]]) rfl FRef07.call69 rfl (letheref07_Sub_ok  hr514 h513) ?_
    rintro _ w516 ⟨rfl, h516⟩
    refine ⟨_, rfl, .inl ⟨PIn.keep (PIn.cons 6 rfl (PIn.cons 5 rfl (PIn.cons 6 rfl (PIn.cons 5 rfl (PIn.cons 4 rfl (PIn.cons 3 rfl (PIn.cons 4 rfl (PIn.cons 3 rfl PIn.nil)))))))) h516, ?_⟩⟩
    refine Plan.nil ⟨[_, _, _, _, _, _, _], h516, (PIn.cons 6 rfl (PIn.cons 5 rfl (PIn.cons 6 rfl (PIn.cons 5 rfl (PIn.cons 4 rfl (PIn.cons 3 rfl (PIn.cons 4 rfl (PIn.cons 3 rfl PIn.nil)))))))), ?_⟩
    refine PX.step fun C517 z517 w517 h517 => ?_
    simp only [zca, zna] at h517
    obtain ⟨x_519, hr518, hR⟩ := hR
    refine Plan.call (vs := [AG [(10, fun q => .int .i64 (m496 q))], AG [(10, fun q => .int .i64 (m497 q))]]) rfl FRef07.call68 rfl (letheref07_Add_ok  hr518 h517) ?_
    rintro _ w520 ⟨rfl, h520⟩
    refine ⟨_, rfl, .inl ⟨PIn.keep (PIn.cons 6 rfl (PIn.cons 5 rfl (PIn.cons 6 rfl (PIn.cons 5 rfl (PIn.cons 4 rfl (PIn.cons 3 rfl (PIn.cons 4 rfl (PIn.cons 3 rfl PIn.nil)))))))) h520, ?_⟩⟩
    refine Plan.nil ⟨[_, _, _, _, _, _, _], h520, (PIn.cons 6 rfl (PIn.cons 5 rfl (PIn.cons 6 rfl (PIn.cons 5 rfl (PIn.cons 4 rfl (PIn.cons 3 rfl (PIn.cons 4 rfl (PIn.cons 3 rfl PIn.nil)))))))), ?_⟩
    refine PX.step fun C521 z521 w521 h521 => ?_
    simp only [zca, zna] at h521
    obtain ⟨x_523, hr522, hR⟩ := hR
    refine Plan.call (vs := [AG [(10, fun q => .int .i64 (m496 q))], AG [(10, fun q => .int .i64 (m497 q))]]) rfl FRef07.call69 rfl (letheref07_Sub_ok  hr522 h521) ?_
    rintro _ w524 ⟨rfl, h524⟩
    refine ⟨_, rfl, .inl ⟨PIn.keep (PIn.cons 6 rfl (PIn.cons 5 rfl (PIn.cons 6 rfl (PIn.cons 5 rfl (PIn.cons 4 rfl (PIn.cons 3 rfl (PIn.cons 4 rfl (PIn.cons 3 rfl PIn.nil)))))))) h524, ?_⟩⟩
    refine Plan.nil ⟨[_, _, _, _, _, _, _], h524, (PIn.cons 6 rfl (PIn.cons 5 rfl (PIn.cons 6 rfl (PIn.cons 5 rfl (PIn.cons 4 rfl (PIn.cons 3 rfl (PIn.cons 4 rfl (PIn.cons 3 rfl PIn.nil)))))))), ?_⟩
    refine PX.done (KE.step fun b525_12 => (KE.step fun b525_13 => (KE.step fun b525_14 => (KE.step fun b525_15 => (KE.fin fun w525 h525 => ?_)))))
    simp only [rngs, Nat.zero_add, Nat.reduceAdd, zca, zna] at h525
    refine Plan.storeP (ps := [(10, fun q => .int .i64 (x_511 q))]) h525 rfl rfl rfl (.cons 7 rfl .nil) ⟨fun _ _ => rfl, trivial⟩ FRef07.sz129 (EffO.mix _ (Filt.keep rfl (Filt.keep rfl (Filt.keep rfl (Filt.keep rfl (Filt.keep rfl (Filt.keep rfl (Filt.drop rfl (Filt.drop rfl Filt.nil)))))))) (PIn.cons 6 rfl (PIn.cons 5 rfl (PIn.cons 6 rfl (PIn.cons 5 rfl (PIn.cons 4 rfl (PIn.cons 3 rfl PIn.nil))))))) fun w526 h526 => ?_
    simp only [zca, zna, zsz, zss] at h526
    refine Plan.storeP (ps := [(10, fun q => .int .i64 (x_515 q))]) h526 rfl rfl rfl (.cons 8 rfl .nil) ⟨fun _ _ => rfl, trivial⟩ FRef07.sz129 (EffO.mix _ (Filt.keep rfl (Filt.keep rfl (Filt.keep rfl (Filt.keep rfl (Filt.drop rfl (Filt.drop rfl Filt.nil)))))) (PIn.cons 6 rfl (PIn.cons 5 rfl (PIn.cons 6 rfl (PIn.cons 5 rfl PIn.nil))))) fun w527 h527 => ?_
    simp only [zca, zna, zsz, zss] at h527
    refine Plan.storeP (ps := [(10, fun q => .int .i64 (x_519 q))]) h527 rfl rfl rfl (.cons 9 rfl .nil) ⟨fun _ _ => rfl, trivial⟩ FRef07.sz129 (EffO.mix _ (Filt.keep rfl (Filt.keep rfl (Filt.drop rfl (Filt.drop rfl Filt.nil)))) (PIn.cons 6 rfl (PIn.cons 5 rfl PIn.nil))) fun w528 h528 => ?_
    simp only [zca, zna, zsz, zss] at h528
    refine Plan.storeA (f' := fun q => .int .i64 (x_523 q)) h528 10 rfl rfl rfl rfl (fun _ _ => rfl) FRef07.sz129 rfl fun w529 h529 => ?_
    simp only [zca, zna, zsz, zss] at h529
    refine Plan.nil (k507 _ _ ?_); clear k507
    refine W.seq_k fun _ k530 => ?_
    refine W.regionX (B := B) (w0 := w0) (L := L) FRef07.mixed [⟨6, 17, 129, [(10, fun q => .int .i64 ((fun _ => (0 : Int)) q))]⟩, ⟨7, 18, 129, [(10, fun q => .int .i64 ((fun _ => (0 : Int)) q))]⟩] [(0, true), (1, true), (3, true), (4, true)] [[(2, false)], [(5, false)]] [(8, false), (9, false)] (by kernel_rfl) (by kernel_rfl) (.cons FRef07.z129 (.cons FRef07.z129 .nil)) ?_
    have h531 := h529.drew
    refine Plan.loadA1 h531 10 rfl rfl rfl FRef07.agg129 <| Plan.loadA1 h531 7 rfl rfl rfl FRef07.agg129 <| Plan.loadA1 h531 9 rfl rfl rfl FRef07.agg129 <| Plan.loadA1 h531 8 rfl rfl rfl FRef07.agg129 ?_
    refine Plan.nil ⟨[_, _, _, _, _, _, _, _, _, _, _], h531, (PIn.cons 8 rfl (PIn.cons 9 rfl (PIn.cons 7 rfl (PIn.cons 10 rfl PIn.nil)))), ?_⟩
    refine PX.step fun C532 z532 w532 h532 => ?_
    simp only [zca, zna] at h532
    obtain ⟨x_534, hr533, hR⟩ := hR
    refine Plan.call (vs := [AG [(10, fun q => .int .i64 (x_523 q))], AG [(10, fun q => .int .i64 (x_511 q))]]) rfl FRef07.call70 rfl (letheref07_Mul_ok  hr533 h532) ?_
    rintro _ w535 ⟨rfl, h535⟩
    refine ⟨_, rfl, .inl ⟨PIn.keep (PIn.cons 8 rfl (PIn.cons 9 rfl (PIn.cons 7 rfl (PIn.cons 10 rfl PIn.nil)))) h535, ?_⟩⟩
    refine Plan.nil ⟨[_, _, _, _, _, _, _, _, _, _, _], h535, (PIn.cons 8 rfl (PIn.cons 9 rfl (PIn.cons 7 rfl (PIn.cons 10 rfl PIn.nil)))), ?_⟩
    refine PX.step fun C536 z536 w536 h536 => ?_
    simp only [zca, zna] at h536
    obtain ⟨x_538, hr537, hR⟩ := hR
    refine Plan.call (vs := [AG [(10, fun q => .int .i64 (x_519 q))], AG [(10, fun q => .int .i64 (x_515 q))]]) rfl FRef07.call70 rfl (letheref07_Mul_ok  hr537 h536) ?_
    rintro _ w539 ⟨rfl, h539⟩
    refine ⟨_, rfl, .inl ⟨PIn.keep (PIn.cons 8 rfl (PIn.cons 9 rfl (PIn.cons 7 rfl (PIn.cons 10 rfl PIn.nil)))) h539, ?_⟩⟩
    refine Plan.nil ⟨[_, _, _, _, _, _, _, _, _, _, _], h539, (PIn.cons 8 rfl (PIn.cons 9 rfl (PIn.cons 7 rfl (PIn.cons 10 rfl PIn.nil)))), ?_⟩
    refine PX.done (KE.step fun b540_6 => (KE.step fun b540_7 => (KE.fin fun w540 h540 => ?_)))
    simp only [rngs, Nat.zero_add, Nat.reduceAdd, zca, zna] at h540
    refine Plan.storeP (ps := [(10, fun q => .int .i64 (x_534 q))]) h540 rfl rfl rfl (.cons 11 rfl .nil) ⟨fun _ _ => rfl, trivial⟩ FRef07.sz129 (EffO.mix _ (Filt.keep rfl (Filt.keep rfl (Filt.drop rfl (Filt.drop rfl Filt.nil)))) (PIn.cons 8 rfl (PIn.cons 9 rfl PIn.nil))) fun w541 h541 => ?_
    simp only [zca, zna, zsz, zss] at h541
    refine Plan.storeA (f' := fun q => .int .i64 (x_538 q)) h541 12 rfl rfl rfl rfl (fun _ _ => rfl) FRef07.sz129 rfl fun w542 h542 => ?_
    simp only [zca, zna, zsz, zss] at h542
    refine Plan.nil (k530 _ _ ?_); clear k530
    refine W.seq_k fun _ k543 => ?_
    refine W.regionX (B := B) (w0 := w0) (L := L) FRef07.mixed [⟨6, 19, 129, [(10, fun q => .int .i64 ((fun _ => (0 : Int)) q))]⟩, ⟨7, 20, 129, [(10, fun q => .int .i64 ((fun _ => (0 : Int)) q))]⟩] [(0, true), (1, true), (3, true), (4, true)] [[(2, false)], [(5, false)]] [(8, false), (9, false)] (by kernel_rfl) (by kernel_rfl) (.cons FRef07.z129 (.cons FRef07.z129 .nil)) ?_
    have h544 := h542.drew
    refine Plan.loadA1 h544 11 rfl rfl rfl FRef07.agg129 <| Plan.loadA1 h544 12 rfl rfl rfl FRef07.agg129 <| Plan.loadA1 h544 11 rfl rfl rfl FRef07.agg129 <| Plan.loadA1 h544 12 rfl rfl rfl FRef07.agg129 ?_
    refine Plan.nil ⟨[_, _, _, _, _, _, _, _, _, _, _, _, _], h544, (PIn.cons 12 rfl (PIn.cons 11 rfl (PIn.cons 12 rfl (PIn.cons 11 rfl PIn.nil)))), ?_⟩
    refine PX.step fun C545 z545 w545 h545 => ?_
    simp only [zca, zna] at h545
    obtain ⟨x_547, hr546, hR⟩ := hR
    refine Plan.call (vs := [AG [(10, fun q => .int .i64 (x_534 q))], AG [(10, fun q => .int .i64 (x_538 q))]]) rfl FRef07.call68 rfl (letheref07_Add_ok  hr546 h545) ?_
    rintro _ w548 ⟨rfl, h548⟩
    refine ⟨_, rfl, .inl ⟨PIn.keep (PIn.cons 12 rfl (PIn.cons 11 rfl (PIn.cons 12 rfl (PIn.cons 11 rfl PIn.nil)))) h548, ?_⟩⟩
    refine Plan.nil ⟨[_, _, _, _, _, _, _, _, _, _, _, _, _], h548, (PIn.cons 12 rfl (PIn.cons 11 rfl (PIn.cons 12 rfl (PIn.cons 11 rfl PIn.nil)))), ?_⟩
    refine PX.step fun C549 z549 w549 h549 => ?_
    simp only [zca, zna] at h549
    obtain ⟨x_551, hr550, hR⟩ := hR
    refine Plan.call (vs := [AG [(10, fun q => .int .i64 (x_534 q))], AG [(10, fun q => .int .i64 (x_538 q))]]) rfl FRef07.call69 rfl (letheref07_Sub_ok  hr550 h549) ?_
    rintro _ w552 ⟨rfl, h552⟩
    refine ⟨_, rfl, .inl ⟨PIn.keep (PIn.cons 12 rfl (PIn.cons 11 rfl (PIn.cons 12 rfl (PIn.cons 11 rfl PIn.nil)))) h552, ?_⟩⟩
    refine Plan.nil ⟨[_, _, _, _, _, _, _, _, _, _, _, _, _], h552, (PIn.cons 12 rfl (PIn.cons 11 rfl (PIn.cons 12 rfl (PIn.cons 11 rfl PIn.nil)))), ?_⟩
    refine PX.done (KE.step fun b553_6 => (KE.step fun b553_7 => (KE.fin fun w553 h553 => ?_)))
    simp only [rngs, Nat.zero_add, Nat.reduceAdd, zca, zna] at h553
    refine Plan.storeP (ps := [(10, fun q => .int .i64 (x_547 q))]) h553 rfl rfl rfl (.cons 13 rfl .nil) ⟨fun _ _ => rfl, trivial⟩ FRef07.sz129 (EffO.mix _ (Filt.keep rfl (Filt.keep rfl (Filt.drop rfl (Filt.drop rfl Filt.nil)))) (PIn.cons 12 rfl (PIn.cons 11 rfl PIn.nil))) fun w554 h554 => ?_
    simp only [zca, zna, zsz, zss] at h554
    refine Plan.storeA (f' := fun q => .int .i64 (x_551 q)) h554 14 rfl rfl rfl rfl (fun _ _ => rfl) FRef07.sz129 rfl fun w555 h555 => ?_
    simp only [zca, zna, zsz, zss] at h555
    refine Plan.nil (k543 _ _ ?_); clear k543
    refine W.seq_k fun _ k556 => W.regionT [(0, true), (1, true), (2, false), (3, false)] (by kernel_rfl) ?_
    refine Plan.loadA1 h555 13 rfl rfl rfl FRef07.agg129 <| Plan.loadA1 h555 13 rfl rfl rfl FRef07.agg129 ?_
    obtain ⟨x_558, hr557, hR⟩ := hR
    refine Plan.call (vs := [AG [(10, fun q => .int .i64 (x_547 q))], AG [(10, fun q => .int .i64 (x_547 q))]]) rfl FRef07.call70 rfl (letheref07_Mul_ok  hr557 h555) ?_
    rintro _ w559 ⟨rfl, h559⟩
    refine ⟨_, rfl, .inr ⟨rfl, ?_⟩⟩
    refine Plan.storeA (f' := fun q => .int .i64 (x_558 q)) h559 5 rfl rfl rfl rfl (fun _ _ => rfl) FRef07.sz129 rfl fun w560 h560 => ?_
    simp only [zca, zna, zsz, zss] at h560
    refine Plan.nil (k556 _ _ ?_); clear k556
    refine W.seq_k fun _ k561 => ?_
    refine W.regionD FRef07.mixed [(0, true), (1, true), (2, true), (3, false), (4, false), (5, false)] (by kernel_rfl) ?_
    have h562 := h560.drew
    refine Plan.loadA1 h562 0 rfl rfl rfl FRef07.agg129 <| Plan.loadA1 h562 14 rfl rfl rfl FRef07.agg129 <| Plan.loadA1 h562 14 rfl rfl rfl FRef07.agg129 ?_
    obtain ⟨x_564, hr563, hR⟩ := hR
    refine Plan.call (vs := [AG [(10, fun q => .int .i64 (x_551 q))], AG [(10, fun q => .int .i64 (x_551 q))]]) rfl FRef07.call70 rfl (letheref07_Mul_ok  hr563 h562) ?_
    rintro _ w565 ⟨rfl, h565⟩
    refine ⟨_, rfl, .inl ⟨PIn.keep (PIn.cons 14 rfl (PIn.cons 14 rfl (PIn.cons 0 rfl PIn.nil))) h565, ?_⟩⟩
    obtain ⟨x_567, hr566, hR⟩ := hR
    refine Plan.call (vs := [AG [(10, fun q => .int .i64 (x_15 q))], AG [(10, fun q => .int .i64 (x_564 q))]]) rfl FRef07.call70 rfl (letheref07_Mul_ok  hr566 h565) ?_
    rintro _ w568 ⟨rfl, h568⟩
    refine ⟨_, rfl, .inl ⟨PIn.keep (PIn.cons 14 rfl (PIn.cons 14 rfl (PIn.cons 0 rfl PIn.nil))) h568, ?_⟩⟩
    refine Plan.storeA (f' := fun q => .int .i64 (x_567 q)) h568 6 rfl rfl rfl rfl (fun _ _ => rfl) FRef07.sz129 rfl fun w569 h569 => ?_
    simp only [zca, zna, zsz, zss] at h569
    refine Plan.nil (k561 _ _ ?_); clear k561
    refine W.seq_k fun _ k570 => ?_
    refine W.regionX (B := B) (w0 := w0) (L := L) FRef07.mixed [⟨6, 21, 129, [(10, fun q => .int .i64 ((fun _ => (0 : Int)) q))]⟩, ⟨7, 22, 129, [(10, fun q => .int .i64 ((fun _ => (0 : Int)) q))]⟩] [(0, true), (1, true), (3, true), (4, true)] [[(2, false)], [(5, false)]] [(8, false), (9, false)] (by kernel_rfl) (by kernel_rfl) (.cons FRef07.z129 (.cons FRef07.z129 .nil)) ?_
    have h571 := h569.drew
    refine Plan.loadA1 h571 7 rfl rfl rfl FRef07.agg129 <| Plan.loadA1 h571 7 rfl rfl rfl FRef07.agg129 <| Plan.loadA1 h571 8 rfl rfl rfl FRef07.agg129 <| Plan.loadA1 h571 8 rfl rfl rfl FRef07.agg129 ?_
    refine Plan.nil ⟨[_, _, _, _, _, _, _, _, _, _, _, _, _, _, _], h571, (PIn.cons 8 rfl (PIn.cons 8 rfl (PIn.cons 7 rfl (PIn.cons 7 rfl PIn.nil)))), ?_⟩
    refine PX.step fun C572 z572 w572 h572 => ?_
    simp only [zca, zna] at h572
    obtain ⟨x_574, hr573, hR⟩ := hR
    refine Plan.call (vs := [AG [(10, fun q => .int .i64 (x_511 q))], AG [(10, fun q => .int .i64 (x_511 q))]]) rfl FRef07.call70 rfl (letheref07_Mul_ok  hr573 h572) ?_
    rintro _ w575 ⟨rfl, h575⟩
    refine ⟨_, rfl, .inl ⟨PIn.keep (PIn.cons 8 rfl (PIn.cons 8 rfl (PIn.cons 7 rfl (PIn.cons 7 rfl PIn.nil)))) h575, ?_⟩⟩
    refine Plan.nil ⟨[_, _, _, _, _, _, _, _, _, _, _, _, _, _, _], h575, (PIn.cons 8 rfl (PIn.cons 8 rfl (PIn.cons 7 rfl (PIn.cons 7 rfl PIn.nil)))), ?_⟩
    refine PX.step fun C576 z576 w576 h576 => ?_
    simp only [zca, zna] at h576
    obtain ⟨x_578, hr577, hR⟩ := hR
    refine Plan.call (vs := [AG [(10, fun q => .int .i64 (x_515 q))], AG [(10, fun q => .int .i64 (x_515 q))]]) rfl FRef07.call70 rfl (letheref07_Mul_ok  hr577 h576) ?_
    rintro _ w579 ⟨rfl, h579⟩
    refine ⟨_, rfl, .inl ⟨PIn.keep (PIn.cons 8 rfl (PIn.cons 8 rfl (PIn.cons 7 rfl (PIn.cons 7 rfl PIn.nil)))) h579, ?_⟩⟩
    refine Plan.nil ⟨[_, _, _, _, _, _, _, _, _, _, _, _, _, _, _], h579, (PIn.cons 8 rfl (PIn.cons 8 rfl (PIn.cons 7 rfl (PIn.cons 7 rfl PIn.nil)))), ?_⟩
    refine PX.done (KE.step fun b580_6 => (KE.step fun b580_7 => (KE.fin fun w580 h580 => ?_)))
    simp only [rngs, Nat.zero_add, Nat.reduceAdd, zca, zna] at h580
    refine Plan.storeP (ps := [(10, fun q => .int .i64 (x_574 q))]) h580 rfl rfl rfl (.cons 15 rfl .nil) ⟨fun _ _ => rfl, trivial⟩ FRef07.sz129 (EffO.mix _ (Filt.keep rfl (Filt.keep rfl (Filt.drop rfl (Filt.drop rfl Filt.nil)))) (PIn.cons 8 rfl (PIn.cons 8 rfl PIn.nil))) fun w581 h581 => ?_
    simp only [zca, zna, zsz, zss] at h581
    refine Plan.storeA (f' := fun q => .int .i64 (x_578 q)) h581 16 rfl rfl rfl rfl (fun _ _ => rfl) FRef07.sz129 rfl fun w582 h582 => ?_
    simp only [zca, zna, zsz, zss] at h582
    refine Plan.nil (k570 _ _ ?_); clear k570
    refine W.seq_k fun _ k583 => W.regionT [(0, true), (1, true), (2, false), (3, false), (4, false)] (by kernel_rfl) ?_
    refine Plan.loadA1 h582 15 rfl rfl rfl FRef07.agg129 <| Plan.loadA1 h582 16 rfl rfl rfl FRef07.agg129 ?_
    obtain ⟨x_585, hr584, hR⟩ := hR
    refine Plan.call (vs := [AG [(10, fun q => .int .i64 (x_574 q))], AG [(10, fun q => .int .i64 (x_578 q))]]) rfl FRef07.call69 rfl (letheref07_Sub_ok  hr584 h582) ?_
    rintro _ w586 ⟨rfl, h586⟩
    refine ⟨_, rfl, .inr ⟨rfl, ?_⟩⟩
    refine Plan.alloc h586 rfl FRef07.z129 PIn.nil fun b587 w587 hb587 h587 => ?_
    simp only [rngs, Nat.zero_add, Nat.reduceAdd, zca, zna] at h587
    refine Plan.storeA (f' := fun q => .int .i64 (x_585 q)) h587 0 rfl rfl rfl rfl (fun _ _ => rfl) FRef07.sz129 rfl fun w588 h588 => ?_
    simp only [zca, zna, zsz, zss] at h588
    refine Plan.nil (k583 _ _ ?_); clear k583
    refine W.seq_k fun _ k589 => W.regionT [(0, true), (1, true), (2, false), (3, false)] (by kernel_rfl) ?_
    refine Plan.loadA1 h588 16 rfl rfl rfl FRef07.agg129 <| Plan.loadA1 h588 17 rfl rfl rfl FRef07.agg129 ?_
    obtain ⟨x_591, hr590, hR⟩ := hR
    refine Plan.call (vs := [AG [(10, fun q => .int .i64 (x_574 q))], AG [(10, fun q => .int .i64 (x_578 q))]]) rfl FRef07.call70 rfl (letheref07_Mul_ok  hr590 h588) ?_
    rintro _ w592 ⟨rfl, h592⟩
    refine ⟨_, rfl, .inr ⟨rfl, ?_⟩⟩
    refine Plan.storeA (f' := fun q => .int .i64 (x_591 q)) h592 4 rfl rfl rfl rfl (fun _ _ => rfl) FRef07.sz129 rfl fun w593 h593 => ?_
    simp only [zca, zna, zsz, zss] at h593
    refine Plan.nil (k589 _ _ ?_); clear k589
    refine W.seq_k fun _ k594 => ?_
    refine W.regionD FRef07.mixed [(0, true), (1, true), (3, true), (2, false), (4, false), (5, false), (6, false), (7, false)] (by kernel_rfl) ?_
    have h595 := h593.drew
    refine Plan.loadA1 h595 0 rfl rfl rfl FRef07.agg129 <| Plan.loadA1 h595 16 rfl rfl rfl FRef07.agg129 <| Plan.loadA1 h595 0 rfl rfl rfl FRef07.agg129 ?_
    obtain ⟨x_597, hr596, hR⟩ := hR
    refine Plan.call (vs := [VN 121665]) rfl FRef07.call66 rfl (letheref07_of_ok  hr596 h595) ?_
    rintro _ w598 ⟨rfl, h598⟩
    refine ⟨_, rfl, .inl ⟨PIn.keep (PIn.cons 0 rfl (PIn.cons 16 rfl (PIn.cons 0 rfl PIn.nil))) h598, ?_⟩⟩
    obtain ⟨x_600, hr599, hR⟩ := hR
    refine Plan.call (vs := [AG [(10, fun q => .int .i64 (x_597 q))], AG [(10, fun q => .int .i64 (x_585 q))]]) rfl FRef07.call70 rfl (letheref07_Mul_ok  hr599 h598) ?_
    rintro _ w601 ⟨rfl, h601⟩
    refine ⟨_, rfl, .inl ⟨PIn.keep (PIn.cons 0 rfl (PIn.cons 16 rfl (PIn.cons 0 rfl PIn.nil))) h601, ?_⟩⟩
    obtain ⟨x_603, hr602, hR⟩ := hR
    refine Plan.call (vs := [AG [(10, fun q => .int .i64 (x_574 q))], AG [(10, fun q => .int .i64 (x_600 q))]]) rfl FRef07.call68 rfl (letheref07_Add_ok  hr602 h601) ?_
    rintro _ w604 ⟨rfl, h604⟩
    refine ⟨_, rfl, .inl ⟨PIn.keep (PIn.cons 0 rfl (PIn.cons 16 rfl (PIn.cons 0 rfl PIn.nil))) h604, ?_⟩⟩
    obtain ⟨x_606, hr605, hR⟩ := hR
    refine Plan.call (vs := [AG [(10, fun q => .int .i64 (x_585 q))], AG [(10, fun q => .int .i64 (x_603 q))]]) rfl FRef07.call70 rfl (letheref07_Mul_ok  hr605 h604) ?_
    rintro _ w607 ⟨rfl, h607⟩
    refine ⟨_, rfl, .inl ⟨PIn.keep (PIn.cons 0 rfl (PIn.cons 16 rfl (PIn.cons 0 rfl PIn.nil))) h607, ?_⟩⟩
    refine Plan.storeA (f' := fun q => .int .i64 (x_606 q)) h607 5 rfl rfl rfl rfl (fun _ _ => rfl) FRef07.sz129 rfl fun w608 h608 => ?_
    simp only [zca, zna, zsz, zss] at h608
    refine Plan.nil (k594 _ _ ?_); clear k594
    refine W.seq_k fun _ k609 => W.regionT [(0, true)] (by kernel_rfl) ?_
    refine Plan.move_bool rfl rfl <| Plan.nil (k609 _ _ ?_); clear k609
    by_cases hc610 : x_484 = 1
    ·
     replace hR := ifT hR hc610
     refine W.condT (congrArg Value.bool (decide_eq_true hc610)) ?_
     refine W.regionD FRef07.mixed [(0, true), (1, true), (2, true), (3, true), (4, false), (5, false), (6, false), (7, false)] (by kernel_rfl) ?_
     have h611 := h608.drew
     refine Plan.loadA1 h611 6 rfl rfl rfl FRef07.agg129 <| Plan.loadA1 h611 7 rfl rfl rfl FRef07.agg129 <| Plan.loadA1 h611 4 rfl rfl rfl FRef07.agg129 <| Plan.loadA1 h611 5 rfl rfl rfl FRef07.agg129 ?_
     refine Plan.storeP (ps := [(10, fun q => .int .i64 (x_558 q))]) h611 rfl rfl rfl (.cons 4 rfl .nil) ⟨fun _ _ => rfl, trivial⟩ FRef07.sz129 (EffO.mix _ (Filt.drop rfl (Filt.drop rfl (Filt.keep rfl (Filt.drop rfl Filt.nil)))) (PIn.cons 7 rfl PIn.nil)) fun w612 h612 => ?_
     simp only [zca, zna, zsz, zss] at h612
     refine Plan.storeA (f' := fun q => .int .i64 (x_567 q)) h612 5 rfl rfl rfl rfl (fun _ _ => rfl) FRef07.sz129 rfl fun w613 h613 => ?_
     simp only [zca, zna, zsz, zss] at h613
     refine Plan.storeA (f' := fun q => .int .i64 (x_591 q)) h613 6 rfl rfl rfl rfl (fun _ _ => rfl) FRef07.sz129 rfl fun w614 h614 => ?_
     simp only [zca, zna, zsz, zss] at h614
     refine Plan.storeA (f' := fun q => .int .i64 (x_606 q)) h614 7 rfl rfl rfl rfl (fun _ _ => rfl) FRef07.sz129 rfl fun w615 h615 => ?_
     simp only [zca, zna, zsz, zss] at h615
     refine Plan.nil ?_
     refine blockR_norm ?_
     refine k481 _ _ ?_; clear k481
     refine W.regionT [(0, true), (1, true), (2, true)] (by kernel_rfl) ?_
     refine Plan.move_int rfl rfl ?_
     obtain ⟨hc616, hR⟩ := hR
     refine Plan.subI (a := i_468) (b := 1) rfl rfl rfl (by omega) <| Plan.assign_int rfl rfl <| Plan.nil ?_
     have h617 := St.pickT (C := [_, _, _, _, _, _, _, _, _, _, _, _, _, _, _, _, _, _]) h615 [1, 2, 3, 4, 5, 6, 7] (by decide)
     simp only [pick, zfc, zfn, zgz, zgs, zca, zna] at h617
     exact iterR_norm ⟨_, hR, (zer (zer (zer (zer (zer (zer (zer (zer zen)))))))), h617⟩
    ·
     replace hR := ifF hR hc610
     refine W.condF (congrArg Value.bool (decide_eq_false hc610)) ?_
     refine W.skip ?_
     refine blockR_norm ?_
     refine k481 _ _ ?_; clear k481
     refine W.regionT [(0, true), (1, true), (2, true)] (by kernel_rfl) ?_
     refine Plan.move_int rfl rfl ?_
     obtain ⟨hc618, hR⟩ := hR
     refine Plan.subI (a := i_468) (b := 1) rfl rfl rfl (by omega) <| Plan.assign_int rfl rfl <| Plan.nil ?_
     have h619 := St.pickT (C := [_, _, _, _, _, _, _, _, _, _, _, _, _, _, _, _, _, _]) h608 [1, 2, 3, 4, 5, 6, 7] (by decide)
     simp only [pick, zfc, zfn, zgz, zgs, zca, zna] at h619
     exact iterR_norm ⟨_, hR, (zer (zer (zer (zer (zer (zer (zer (zer zen)))))))), h619⟩
  ·
   replace hR := ifF hR hc480
   refine W.condF (congrArg Value.bool (decide_eq_false hc480)) ?_
   refine W.exit (thenR_exit (iterR_exit (blockR_here ?_)))
   have h620 := St.pickT (C := [_, _, _, _, _, _, _]) h477 [2, 3, 4] (by decide)
   simp only [pick, zfc, zfn, zgz, zgs, zca, zna] at h620
   exact ⟨m469, m470, (hx475 _ hR).symm, (zer (zer (zer zen))), h620⟩
 ·
  rintro ev621 wl621 ⟨y_m473, y_m474, hy621, he621, h621⟩
  obtain ⟨ev621, rfl⟩ := he621.open
  cases hy621
  replace hR := hR0475
  refine k38 _ _ ?_; clear k38
  refine W.seq_k fun _ k622 => ?_
  refine W.regionD FRef07.mixed [(0, true), (1, true), (2, false), (3, false), (4, false), (5, false)] (by kernel_rfl) ?_
  have h623 := h621.drew
  refine Plan.loadA1 h623 1 rfl rfl rfl FRef07.agg129 <| Plan.loadA1 h623 2 rfl rfl rfl FRef07.agg129 ?_
  obtain ⟨x_625, hr624, hR⟩ := hR
  refine Plan.call (vs := [AG [(10, fun q => .int .i64 (m474 q))]]) rfl FRef07.call72 rfl (letheref07_Inverse_ok  hr624 h623) ?_
  rintro _ w626 ⟨rfl, h626⟩
  refine ⟨_, rfl, .inl ⟨PIn.keep (PIn.cons 2 rfl (PIn.cons 1 rfl PIn.nil)) h626, ?_⟩⟩
  obtain ⟨x_628, hr627, hR⟩ := hR
  refine Plan.call (vs := [AG [(10, fun q => .int .i64 (m473 q))], AG [(10, fun q => .int .i64 (x_625 q))]]) rfl FRef07.call70 rfl (letheref07_Mul_ok  hr627 h626) ?_
  rintro _ w629 ⟨rfl, h629⟩
  refine ⟨_, rfl, .inl ⟨PIn.keep (PIn.cons 2 rfl (PIn.cons 1 rfl PIn.nil)) h629, ?_⟩⟩
  obtain ⟨x_631, hr630, hR⟩ := hR
  refine Plan.call (vs := [AG [(10, fun q => .int .i64 (x_628 q))]]) rfl FRef07.call71 rfl (letheref07_write_ok  hr630 h629) ?_
  rintro _ w632 ⟨rfl, h632⟩
  refine ⟨_, rfl, .inl ⟨PIn.keep (PIn.cons 2 rfl (PIn.cons 1 rfl PIn.nil)) h632, ?_⟩⟩
  refine Plan.storeA (f' := fun q => VU .u8 (x_631 q)) h632 0 rfl rfl rfl rfl (fun _ _ => rfl) FRef07.sz23 rfl fun w633 h633 => ?_
  simp only [zca, zna, zsz, zss] at h633
  refine Plan.nil (k622 _ _ ?_); clear k622
  refine W.ret (finR_ret ?_)
  have h634 := St.pickT (C := [_, _, _]) h633 [] (by decide)
  simp only [pick, zfc, zfn, zgz, zgs, zca, zna] at h634
  subst r
  refine RetOk.mk (.agg h633 rfl (.cons 0 rfl .nil) FRef07.agg23 .nil) ?_
  exact ⟨rfl, h634⟩
theorem letheref07_Shared_ok {B : Nat} {w0 w : World} {L : List Rg} {priv1 : Nat → BitVec 8} {pub2 : Nat → BitVec 8} {r : ((Nat → BitVec 8) × Nat)} (hR : letheref07_Shared priv1 pub2 r) (HST : St B w0 (L) w) :
  Calls Tryd.prog 51 #[AG [(32, fun q => VU .u8 (priv1 q))], AG [(32, fun q => VU .u8 (pub2 q))]] w fun e w' => e = .returned (.tuple #[AG [(32, fun q => VU .u8 (r.1 q))], VN r.2]) ∧ St B w0 (L) w' := by
 refine W.enter 15 Tryd.func51 rfl rfl rfl ?_
 unfold letheref07_Shared at hR
 refine W.seq_k fun _ k3 => W.regionT [(0, false), (1, false), (2, false), (3, true)] (by kernel_rfl) ?_
 refine Plan.boxA HST rfl rfl PIn.nil fun b4 w4 hb4 h4 => ?_
 simp only [rngs, Nat.zero_add, Nat.reduceAdd, zca, zna] at h4
 refine Plan.boxA h4 rfl rfl PIn.nil fun b5 w5 hb5 h5 => ?_
 simp only [rngs, Nat.zero_add, Nat.reduceAdd, zca, zna] at h5
 refine Plan.alloc h5 rfl FRef07.z23 PIn.nil fun b6 w6 hb6 h6 => ?_
 simp only [rngs, Nat.zero_add, Nat.reduceAdd, zca, zna] at h6
 refine Plan.assign_int rfl rfl <| Plan.nil (k3 _ _ ?_); clear k3
 refine W.seq_k fun _ k7 => W.regionT [(0, true), (1, true), (2, false), (3, false), (4, false)] (by kernel_rfl) ?_
 refine Plan.loadA1 h6 2 rfl rfl rfl FRef07.agg23 <| Plan.loadA1 h6 1 rfl rfl rfl FRef07.agg23 ?_
 obtain ⟨x_9, hr8, hR⟩ := hR
 refine Plan.call (vs := [AG [(32, fun q => VU .u8 (priv1 q))], AG [(32, fun q => VU .u8 (pub2 q))]]) rfl FRef07.call59 rfl (letheref07_Times_ok  hr8 h6) ?_
 rintro _ w10 ⟨rfl, h10⟩
 refine ⟨_, rfl, .inr ⟨rfl, ?_⟩⟩
 refine Plan.alloc h10 rfl FRef07.z23 PIn.nil fun b11 w11 hb11 h11 => ?_
 simp only [rngs, Nat.zero_add, Nat.reduceAdd, zca, zna] at h11
 refine Plan.storeA (f' := fun q => VU .u8 (x_9 q)) h11 0 rfl rfl rfl rfl (fun _ _ => rfl) FRef07.sz23 rfl fun w12 h12 => ?_
 simp only [zca, zna, zsz, zss] at h12
 refine Plan.nil (k7 _ _ ?_); clear k7
 refine W.seq_k fun _ k13 => W.seq_k fun _ k14 => ?_
 refine W.regionT [(0, true), (1, true), (2, true)] (by kernel_rfl) ?_
 refine Plan.loadA1 h12 0 rfl rfl rfl FRef07.agg23 <| Plan.buildZ FRef07.row23 FRef07.z23 rfl ?_
 refine Plan.eqArrV (b := (eqB 32 x_9 (fun _ => 0#8))) FRef07.arrI23 rfl rfl rfl rfl ?_
 refine Plan.nil (k14 _ _ ?_); clear k14
 by_cases hc15 : (eqB 32 x_9 (fun _ => 0#8)) = true
 ·
  replace hR := ifT hR hc15
  refine W.condT (congrArg Value.bool hc15) ?_
  refine W.seq_k fun _ k16 => W.regionT [(0, true), (1, false), (2, true)] (by kernel_rfl) ?_
  refine Plan.buildZ FRef07.row23 FRef07.z23 rfl ?_
  refine Plan.storeA (f' := fun q => VU .u8 ((fun _ => 0#8) q)) h12 1 rfl rfl rfl rfl (fun _ _ => rfl) FRef07.sz23 rfl fun w17 h17 => ?_
  simp only [zca, zna, zsz, zss] at h17
  refine Plan.assign_int rfl rfl <| Plan.nil (k16 _ _ ?_); clear k16
  refine W.ret (thenR_ret (finR_ret ?_))
  have h18 := St.pickT (C := [_, _, _, _]) h17 [] (by decide)
  simp only [pick, zfc, zfn, zgz, zgs, zca, zna] at h18
  subst r
  refine RetOk.mk (.agg h17 rfl (.cons 1 rfl .nil) FRef07.agg23 (.tmp_int rfl .nil)) ?_
  exact ⟨rfl, h18⟩
 ·
  replace hR := ifF hR hc15
  refine W.condF (congrArg Value.bool (Bool.eq_false_iff.2 hc15)) ?_
  refine W.skip ?_
  refine k13 _ _ ?_; clear k13
  refine W.seq_k fun _ k19 => W.regionT [(0, true), (1, false), (2, true)] (by kernel_rfl) ?_
  refine Plan.loadA1 h12 0 rfl rfl rfl FRef07.agg23 ?_
  refine Plan.storeA (f' := fun q => VU .u8 (x_9 q)) h12 1 rfl rfl rfl rfl (fun _ _ => rfl) FRef07.sz23 rfl fun w20 h20 => ?_
  simp only [zca, zna, zsz, zss] at h20
  refine Plan.assign_int rfl rfl <| Plan.nil (k19 _ _ ?_); clear k19
  refine W.ret (finR_ret ?_)
  have h21 := St.pickT (C := [_, _, _, _]) h20 [] (by decide)
  simp only [pick, zfc, zfn, zgz, zgs, zca, zna] at h21
  subst r
  refine RetOk.mk (.agg h20 rfl (.cons 1 rfl .nil) FRef07.agg23 (.tmp_int rfl .nil)) ?_
  exact ⟨rfl, h21⟩
end Go.Proofs.YtjclppnbbpnfnaaDoor
