/-
  WALKS of the package's functions, printed by this session's own program (auto.py).
-/
import Derived.Test.YtjblfkmmbpcpaaaDoorProg
import Derived.Test.YtjblfkmmbpcpaaaDoorEb
import Derived.Test.YtjblfkmmbpcpaaaDoorRLaw07
import Derived.Test.YtjblfkmmbpcpaaaDoorEls
import Derived.Test.YtjblfkmmbpcpaaaDoorWCurve
namespace Go.Proofs.YtjblfkmmbpcpaaaDoor
set_option linter.unusedSimpArgs false
set_option linter.unusedVariables false
set_option linter.unusedSectionVars false
open Go Go.LW
theorem FLaw07.mixed : Tryd.prog.follows .mixedOrders = true := by kernel_rfl
theorem FLaw07.agg23 : aggT Tryd.prog 23 32 = true := by kernel_rfl
theorem FLaw07.arr23 : arrB Tryd.prog 23 32 1 = true := by kernel_rfl
theorem FLaw07.sc5 : scalarT Tryd.prog 5 = true := by kernel_rfl
theorem FLaw07.z23 : zeroIs Tryd.prog 23 [(32, fun _ => VU .u8 0#8)] := zeroIs_agg (by kernel_rfl)
theorem FLaw07.u5 : Tryd.prog.underlying 5 = some (.int .u8) := by kernel_rfl
theorem FLaw07.sz5 : szT Tryd.prog 5 1 = true := by kernel_rfl
theorem FLaw07.sz23 : szT Tryd.prog 23 32 = true := by kernel_rfl
theorem FLaw07.arrI23 : arrIB Tryd.prog 23 32 .u8 = true := by kernel_rfl
theorem FLaw07.some3 : (Tryd.prog.underlying 3).isSome = true := by kernel_rfl
theorem FLaw07.call49 : callB Tryd.prog 49 = true := by kernel_rfl
theorem FLaw07.call31 : callB Tryd.prog 31 = true := by kernel_rfl
theorem FLaw07.row23 : rowB Tryd.prog 23 = true := by kernel_rfl
theorem FLaw07.call28 : callB Tryd.prog 28 = true := by kernel_rfl
theorem FLaw07.zv23 : (Tryd.prog.info? 23).bind (·.zero) = some (AG [(32, fun _ => VU .u8 0#8)]) := by kernel_rfl
theorem FLaw07.slu59 : Tryd.prog.underlying 59 = some (.slice 23) := by kernel_rfl

set_option maxRecDepth 8000 in
set_option maxHeartbeats 1000000 in
theorem lethelaw07_counted_ok {B : Nat} {w0 w : World} {L : List Rg} {first1 : Int} {step2 : Int} {r : (Nat → BitVec 8)} (hR : lethelaw07_counted first1 step2 r) (HST : St B w0 (L) w) :
    Calls Tryd.prog 49 #[.int .i64 first1, .int .i64 step2] w fun e w' => e = .returned (AG [(32, fun q => VU .u8 (r q))]) ∧ St B w0 (L) w' := by
  refine W.enter 20 Tryd.func49 rfl rfl rfl ?_
  unfold lethelaw07_counted at hR
  refine W.seq_k fun K3 hK3 => ?_
  refine W.regionT [(0, false)] (by kernel_rfl) ?_
  refine Plan.alloc HST rfl FLaw07.z23 PIn.nil fun b4 w4 hb4 h4 => ?_
  simp only [rngs, Nat.zero_add, Nat.reduceAdd, List.cons_append, List.nil_append] at h4
  refine Plan.nil ?_
  refine hK3 _ _ ?_; clear hK3
  refine W.seq_k fun K5 hK5 => ?_
  refine W.regionT [(0, false)] (by kernel_rfl) ?_
  refine Plan.alloc h4 rfl FLaw07.z23 PIn.nil fun b6 w6 hb6 h6 => ?_
  simp only [rngs, Nat.zero_add, Nat.reduceAdd, List.cons_append, List.nil_append] at h6
  refine Plan.nil ?_
  refine hK5 _ _ ?_; clear hK5
  refine W.seq_k fun K7 hK7 => ?_
  refine W.seq_k fun K8 hK8 => ?_
  refine W.regionT [(0, true)] (by kernel_rfl) ?_
  refine Plan.assign_int rfl rfl ?_
  refine Plan.nil ?_
  refine hK8 _ _ ?_; clear hK8
  obtain ⟨m27, hI28, hR028⟩ := hR
  refine W.cutN (fun e w => ∃ y_m27 : Nat → BitVec 8, m27 = y_m27 ∧ EnvHas e [(4, .pointer (some ⟨b4, 0, none⟩)), (5, .pointer (some ⟨b6, 0, none⟩))] ∧ St B w0 (⟨some b6, 0, 32, fun q => VU .u8 (y_m27 q), true⟩ :: ⟨some b4, 0, 32, fun q => VU .u8 ((fun _ => 0#8) q), true⟩ :: L) w) ?_ ?_
  ·
    refine W.block ?_
    refine W.iter hI28 (fun (s28 : (Nat × (Nat → BitVec 8))) e w => EnvHas e [(0, .int .i64 first1), (1, .int .i64 step2), (4, .pointer (some ⟨b4, 0, none⟩)), (5, .pointer (some ⟨b6, 0, none⟩)), (6, VN s28.1)] ∧ St B w0 (⟨some b6, 0, 32, fun q => VU .u8 (s28.2 q), true⟩ :: ⟨some b4, 0, 32, fun q => VU .u8 ((fun _ => 0#8) q), true⟩ :: L) w) ⟨(EnvHas.cons rfl (EnvHas.cons rfl (EnvHas.cons rfl (EnvHas.cons rfl (EnvHas.cons rfl EnvHas.nil))))), h6⟩ ?_
    rintro ⟨i_25, m26⟩ o28 hR hx28 ev29 wl29 ⟨he29, h29⟩
    obtain ⟨ev29, rfl⟩ := he29.open
    unfold lethelaw07_counted_l0 at hR
    refine W.seq_k fun K30 hK30 => ?_
    refine W.seq_k fun K31 hK31 => ?_
    refine W.regionT [(0, true), (1, true)] (by kernel_rfl) ?_
    refine Plan.move_int rfl rfl ?_
    refine Plan.cmpP (a := (((i_25 : Nat) : Int) : Int)) (b := (32 : Int)) (p := i_25 < 32) rfl rfl rfl rfl icmp_ltN ?_
    refine Plan.nil ?_
    refine hK31 _ _ ?_; clear hK31
    by_cases hc32 : i_25 < 32
    ·
      replace hR := ifT hR hc32
      refine W.condT (congrArg Value.bool (decide_eq_true hc32)) ?_
      refine W.skip ?_
      refine hK30 _ _ ?_; clear hK30
      refine W.seq_k fun K33 hK33 => ?_
      refine W.block ?_
      refine W.regionT [(0, true), (1, true), (2, true), (3, true), (4, true), (5, true), (6, true), (7, true), (8, false)] (by kernel_rfl) ?_
      refine Plan.move_int rfl rfl ?_
      refine Plan.move_int rfl rfl ?_
      refine Plan.move_int rfl rfl ?_
      refine Plan.move_int rfl rfl ?_
      obtain ⟨hc34, hR⟩ := hR
      refine Plan.mulI (a := step2) (b := ((i_25 : Nat) : Int)) rfl rfl rfl (by omega) ?_
      obtain ⟨hc35, hR⟩ := hR
      refine Plan.addI (a := first1) (b := (step2 * ((i_25 : Nat) : Int))) rfl rfl rfl (by omega) ?_
      refine Plan.convIU .u8 (a := (first1 + (step2 * ((i_25 : Nat) : Int)))) FLaw07.u5 FLaw07.some3 rfl rfl ?_
      refine Plan.idxArr1 (j := i_25) FLaw07.arr23 rfl rfl rfl (by omega) ?_
      refine Plan.storeU (j := i_25) (X := (BitVec.ofInt 8 (first1 + (step2 * ((i_25 : Nat) : Int))))) h29 0 rfl rfl rfl rfl (by omega) FLaw07.sz5 rfl fun w36 h36 => ?_
      simp only [List.cons_append, List.nil_append, List.set_cons_zero, List.set_cons_succ] at h36
      refine Plan.nil ?_
      refine blockR_norm ?_
      refine hK33 _ _ ?_; clear hK33
      refine W.regionT [(0, true), (1, true), (2, true)] (by kernel_rfl) ?_
      refine Plan.move_int rfl rfl ?_
      refine Plan.addN (a := i_25) (b := 1) rfl rfl rfl (by omega) ?_
      refine Plan.assign_int rfl rfl ?_
      refine Plan.nil ?_
      exact iterR_norm ⟨_, hR, (EnvHas.cons rfl (EnvHas.cons rfl (EnvHas.cons rfl (EnvHas.cons rfl (EnvHas.cons rfl EnvHas.nil))))), h36⟩
    ·
      replace hR := ifF hR hc32
      refine W.condF (congrArg Value.bool (decide_eq_false hc32)) ?_
      refine W.exit (thenR_exit (iterR_exit (blockR_here ?_)))
      exact ⟨m26, (hx28 _ hR).symm, (EnvHas.cons rfl (EnvHas.cons rfl EnvHas.nil)), h29⟩
  ·
    rintro ev37 wl37 ⟨y_m27, hy37, he37, h37⟩
    obtain ⟨ev37, rfl⟩ := he37.open
    subst hy37
    replace hR := hR028
    refine hK7 _ _ ?_; clear hK7
    refine W.seq_k fun K38 hK38 => ?_
    refine W.regionT [(0, true), (1, false)] (by kernel_rfl) ?_
    refine Plan.loadA1 h37 0 rfl rfl rfl FLaw07.agg23 ?_
    refine Plan.storeA (f' := fun q => VU .u8 (m27 q)) h37 1 rfl rfl rfl rfl (fun _ _ => rfl) FLaw07.sz23 rfl fun w39 h39 => ?_
    simp only [List.cons_append, List.nil_append, List.set_cons_zero, List.set_cons_succ] at h39
    refine Plan.nil ?_
    refine hK38 _ _ ?_; clear hK38
    refine W.ret (finR_ret ?_)
    have h40 := St.pickT (C := [_, _]) h39 [] (by decide)
    simp only [pick, List.filterMap_cons, List.filterMap_nil, List.getElem?_cons_zero, List.getElem?_cons_succ, List.cons_append, List.nil_append] at h40
    subst r
    refine RetOk.mk (.agg h39 rfl (.cons 1 rfl .nil) FLaw07.agg23 .nil) ?_
    exact ⟨rfl, h40⟩


set_option maxRecDepth 8000 in
set_option maxHeartbeats 1000000 in
theorem lethelaw07_fixed_ok {B : Nat} {w0 w : World} {L : List Rg} {iG0 : Nat} (hG0 : L[iG0]? = some ⟨some 0, 0, 5, fun q => VU .u64 (twice5 q), false⟩)  {r : Bool} (hR : lethelaw07_fixed r) (HST : St B w0 (L) w) :
    Calls Tryd.prog 23 #[] w fun e w' => e = .returned (.bool r) ∧ St B w0 (L) w' := by
  refine W.enter 80 Tryd.func23 rfl rfl rfl ?_
  unfold lethelaw07_fixed at hR
  refine W.seq_k fun K1 hK1 => ?_
  refine W.regionT [(0, true)] (by kernel_rfl) ?_
  refine Plan.assign_bool rfl rfl ?_
  refine Plan.nil ?_
  refine hK1 _ _ ?_; clear hK1
  refine W.seq_k fun K2 hK2 => ?_
  refine W.regionT [(0, false), (1, false), (2, false), (3, false), (4, false), (5, false)] (by kernel_rfl) ?_
  obtain ⟨x_4, hr3, hR⟩ := hR
  refine Plan.call (vs := [VN 0, VN 1]) rfl FLaw07.call49 rfl (lethelaw07_counted_ok  hr3 HST) ?_
  rintro _ w5 ⟨rfl, h5⟩
  refine ⟨_, rfl, .inl ⟨PIn.keep PIn.nil h5, ?_⟩⟩
  obtain ⟨x_7, hr6, hR⟩ := hR
  refine Plan.call (vs := [VN 255, .int .i64 (-1)]) rfl FLaw07.call49 rfl (lethelaw07_counted_ok  hr6 h5) ?_
  rintro _ w8 ⟨rfl, h8⟩
  refine ⟨_, rfl, .inl ⟨PIn.keep PIn.nil h8, ?_⟩⟩
  refine Plan.alloc h8 rfl FLaw07.z23 PIn.nil fun b9 w9 hb9 h9 => ?_
  simp only [rngs, Nat.zero_add, Nat.reduceAdd, List.cons_append, List.nil_append] at h9
  refine Plan.alloc h9 rfl FLaw07.z23 PIn.nil fun b10 w10 hb10 h10 => ?_
  simp only [rngs, Nat.zero_add, Nat.reduceAdd, List.cons_append, List.nil_append] at h10
  refine Plan.storeA (f' := fun q => VU .u8 (x_4 q)) h10 1 rfl rfl rfl rfl (fun _ _ => rfl) FLaw07.sz23 rfl fun w11 h11 => ?_
  simp only [List.cons_append, List.nil_append, List.set_cons_zero, List.set_cons_succ] at h11
  refine Plan.storeA (f' := fun q => VU .u8 (x_7 q)) h11 0 rfl rfl rfl rfl (fun _ _ => rfl) FLaw07.sz23 rfl fun w12 h12 => ?_
  simp only [List.cons_append, List.nil_append, List.set_cons_zero, List.set_cons_succ] at h12
  refine Plan.nil ?_
  refine hK2 _ _ ?_; clear hK2
  refine W.seq_k fun K13 hK13 => ?_
  refine W.regionX (B := B) (w0 := w0) (L := L) FLaw07.mixed [⟨4, 3, 23, [(32, fun q => VU .u8 ((fun _ => 0#8) q))]⟩, ⟨5, 4, 23, [(32, fun q => VU .u8 ((fun _ => 0#8) q))]⟩] [(0, true), (2, true)] [[(1, false)], [(3, false)]] [(6, false), (7, false)] (by kernel_rfl) (by kernel_rfl) (.cons FLaw07.z23 (.cons FLaw07.z23 .nil)) ?_
  have h14 := h12.drew
  refine Plan.loadA1 h14 1 rfl rfl rfl FLaw07.agg23 ?_
  refine Plan.loadA1 h14 0 rfl rfl rfl FLaw07.agg23 ?_
  refine Plan.nil ⟨[_, _], h14, (PIn.cons 0 rfl (PIn.cons 1 rfl PIn.nil)), ?_⟩
  refine PX.step fun C15 z15 w15 h15 => ?_
  simp only [List.cons_append, List.nil_append] at h15
  obtain ⟨x_17, hr16, hR⟩ := hR
  refine Plan.call (vs := [AG [(32, fun q => VU .u8 (x_4 q))]]) rfl FLaw07.call31 rfl (curve_Public_ok (iG0 := (iG0 + C15.length) + 2) (flget hG0 C15) hr16 h15) ?_
  rintro _ w18 ⟨rfl, h18⟩
  refine ⟨_, rfl, .inl ⟨PIn.keep (PIn.cons 0 rfl (PIn.cons 1 rfl PIn.nil)) h18, ?_⟩⟩
  refine Plan.nil ⟨[_, _], h18, (PIn.cons 0 rfl (PIn.cons 1 rfl PIn.nil)), ?_⟩
  refine PX.step fun C19 z19 w19 h19 => ?_
  simp only [List.cons_append, List.nil_append] at h19
  obtain ⟨x_21, hr20, hR⟩ := hR
  refine Plan.call (vs := [AG [(32, fun q => VU .u8 (x_7 q))]]) rfl FLaw07.call31 rfl (curve_Public_ok (iG0 := (iG0 + C19.length) + 2) (flget hG0 C19) hr20 h19) ?_
  rintro _ w22 ⟨rfl, h22⟩
  refine ⟨_, rfl, .inl ⟨PIn.keep (PIn.cons 0 rfl (PIn.cons 1 rfl PIn.nil)) h22, ?_⟩⟩
  refine Plan.nil ⟨[_, _], h22, (PIn.cons 0 rfl (PIn.cons 1 rfl PIn.nil)), ?_⟩
  refine PX.done (KE.step fun b23_4 => (KE.step fun b23_5 => (KE.fin fun w23 h23 => ?_)))
  simp only [rngs, Nat.zero_add, Nat.reduceAdd, List.cons_append, List.nil_append] at h23
  refine Plan.storeP (ps := [(32, fun q => VU .u8 (x_17 q))]) h23 rfl rfl rfl (.cons 2 rfl .nil) ⟨fun _ _ => rfl, trivial⟩ FLaw07.sz23 (EffO.mix _ (Filt.keep rfl (Filt.drop rfl Filt.nil)) (PIn.cons 0 rfl PIn.nil)) fun w24 h24 => ?_
  simp only [List.cons_append, List.nil_append, List.set_cons_zero, List.set_cons_succ] at h24
  refine Plan.storeA (f' := fun q => VU .u8 (x_21 q)) h24 3 rfl rfl rfl rfl (fun _ _ => rfl) FLaw07.sz23 rfl fun w25 h25 => ?_
  simp only [List.cons_append, List.nil_append, List.set_cons_zero, List.set_cons_succ] at h25
  refine Plan.nil ?_
  refine hK13 _ _ ?_; clear hK13
  refine W.seq_k fun K26 hK26 => ?_
  refine W.regionT [(0, true), (1, true), (2, false), (3, true), (4, true), (5, true), (6, false), (7, false), (8, true)] (by kernel_rfl) ?_
  refine Plan.loadA1 h25 1 rfl rfl rfl FLaw07.agg23 ?_
  refine Plan.loadA1 h25 3 rfl rfl rfl FLaw07.agg23 ?_
  obtain ⟨x_28, x_29, hr27, hR⟩ := hR
  refine Plan.call (vs := [AG [(32, fun q => VU .u8 (x_4 q))], AG [(32, fun q => VU .u8 (x_21 q))]]) rfl FLaw07.call28 rfl (curve_Shared_ok (iG0 := iG0 + 4) hG0 hr27 h25) ?_
  rintro _ w30 ⟨rfl, h30⟩
  refine ⟨_, rfl, .inr ⟨rfl, ?_⟩⟩
  refine Plan.move_tuple rfl rfl ?_
  refine Plan.extract_agg rfl rfl rfl ?_
  refine Plan.extract_int rfl rfl rfl ?_
  refine Plan.alloc h30 rfl FLaw07.z23 PIn.nil fun b31 w31 hb31 h31 => ?_
  simp only [rngs, Nat.zero_add, Nat.reduceAdd, List.cons_append, List.nil_append] at h31
  refine Plan.storeA (f' := fun q => VU .u8 (x_28 q)) h31 0 rfl rfl rfl rfl (fun _ _ => rfl) FLaw07.sz23 rfl fun w32 h32 => ?_
  simp only [List.cons_append, List.nil_append, List.set_cons_zero, List.set_cons_succ] at h32
  refine Plan.assign_int rfl rfl ?_
  refine Plan.nil ?_
  refine hK26 _ _ ?_; clear hK26
  refine W.seq_k fun K33 hK33 => ?_
  refine W.regionT [(0, true), (1, true), (2, false), (3, true), (4, true), (5, true), (6, false), (7, false), (8, true)] (by kernel_rfl) ?_
  refine Plan.loadA1 h32 1 rfl rfl rfl FLaw07.agg23 ?_
  refine Plan.loadA1 h32 3 rfl rfl rfl FLaw07.agg23 ?_
  obtain ⟨x_35, x_36, hr34, hR⟩ := hR
  refine Plan.call (vs := [AG [(32, fun q => VU .u8 (x_7 q))], AG [(32, fun q => VU .u8 (x_17 q))]]) rfl FLaw07.call28 rfl (curve_Shared_ok (iG0 := iG0 + 5) hG0 hr34 h32) ?_
  rintro _ w37 ⟨rfl, h37⟩
  refine ⟨_, rfl, .inr ⟨rfl, ?_⟩⟩
  refine Plan.move_tuple rfl rfl ?_
  refine Plan.extract_agg rfl rfl rfl ?_
  refine Plan.extract_int rfl rfl rfl ?_
  refine Plan.alloc h37 rfl FLaw07.z23 PIn.nil fun b38 w38 hb38 h38 => ?_
  simp only [rngs, Nat.zero_add, Nat.reduceAdd, List.cons_append, List.nil_append] at h38
  refine Plan.storeA (f' := fun q => VU .u8 (x_35 q)) h38 0 rfl rfl rfl rfl (fun _ _ => rfl) FLaw07.sz23 rfl fun w39 h39 => ?_
  simp only [List.cons_append, List.nil_append, List.set_cons_zero, List.set_cons_succ] at h39
  refine Plan.assign_int rfl rfl ?_
  refine Plan.nil ?_
  refine hK33 _ _ ?_; clear hK33
  refine W.seq_k fun K40 hK40 => ?_
  refine W.regionT [(0, true), (1, true), (2, false), (3, true), (4, true), (5, true), (6, false), (7, false), (8, true)] (by kernel_rfl) ?_
  refine Plan.loadA1 h39 3 rfl rfl rfl FLaw07.agg23 ?_
  refine Plan.buildZ FLaw07.row23 FLaw07.z23 rfl ?_
  obtain ⟨x_42, x_43, hr41, hR⟩ := hR
  refine Plan.call (vs := [AG [(32, fun q => VU .u8 (x_4 q))], AG [(32, fun q => VU .u8 ((fun _ => 0#8) q))]]) rfl FLaw07.call28 rfl (curve_Shared_ok (iG0 := iG0 + 6) hG0 hr41 h39) ?_
  rintro _ w44 ⟨rfl, h44⟩
  refine ⟨_, rfl, .inr ⟨rfl, ?_⟩⟩
  refine Plan.move_tuple rfl rfl ?_
  refine Plan.extract_agg rfl rfl rfl ?_
  refine Plan.extract_int rfl rfl rfl ?_
  refine Plan.alloc h44 rfl FLaw07.z23 PIn.nil fun b45 w45 hb45 h45 => ?_
  simp only [rngs, Nat.zero_add, Nat.reduceAdd, List.cons_append, List.nil_append] at h45
  refine Plan.storeA (f' := fun q => VU .u8 (x_42 q)) h45 0 rfl rfl rfl rfl (fun _ _ => rfl) FLaw07.sz23 rfl fun w46 h46 => ?_
  simp only [List.cons_append, List.nil_append, List.set_cons_zero, List.set_cons_succ] at h46
  refine Plan.assign_int rfl rfl ?_
  refine Plan.nil ?_
  refine hK40 _ _ ?_; clear hK40
  refine W.seq_k fun K47 hK47 => ?_
  refine W.regionT [(0, true), (1, true), (2, true), (3, true), (4, true), (5, true), (6, true), (7, true), (8, true), (9, true), (10, true), (11, true), (12, true), (13, true), (14, true), (15, true), (16, true), (17, true), (18, true), (19, true), (20, true), (21, true), (22, true), (23, true), (24, true), (25, true), (26, true), (27, true), (28, true), (29, true), (30, true), (31, true), (32, true), (33, true), (34, true), (35, true), (36, true), (37, true), (38, true), (39, true), (40, true), (41, true), (42, true), (43, true), (44, true), (45, true)] (by kernel_rfl) ?_
  refine Plan.move_int rfl rfl ?_
  by_cases hc48 : x_29 = 0
  ·
    replace hR := ifT hR hc48
    refine Plan.cmpV (a := (((x_29 : Nat) : Int) : Int)) (b := (0 : Int)) (p := x_29 = 0) (v := true) rfl rfl rfl rfl icmp_eqN (decide_eq_true hc48) ?_
    refine Plan.move_bool rfl rfl ?_
    refine Plan.move_int rfl rfl ?_
    by_cases hc49 : x_36 = 0
    ·
      replace hR := ifT hR hc49
      refine Plan.cmpV (a := (((x_36 : Nat) : Int) : Int)) (b := (0 : Int)) (p := x_36 = 0) (v := true) rfl rfl rfl rfl icmp_eqN (decide_eq_true hc49) ?_
      refine Plan.pickTb rfl rfl rfl ?_
      refine Plan.move_bool rfl rfl ?_
      refine Plan.move_int rfl rfl ?_
      by_cases hc50 : x_43 = 70
      ·
        replace hR := ifT hR hc50
        refine Plan.cmpV (a := (((x_43 : Nat) : Int) : Int)) (b := (70 : Int)) (p := x_43 = 70) (v := true) rfl rfl rfl rfl icmp_eqN (decide_eq_true hc50) ?_
        refine Plan.pickTb rfl rfl rfl ?_
        refine Plan.move_bool rfl rfl ?_
        refine Plan.loadA1 h46 2 rfl rfl rfl FLaw07.agg23 ?_
        refine Plan.loadA1 h46 1 rfl rfl rfl FLaw07.agg23 ?_
        by_cases hc51 : (eqB 32 x_28 x_35) = true
        ·
          replace hR := ifT hR hc51
          refine Plan.eqArrV (b := true) FLaw07.arrI23 rfl rfl rfl hc51 ?_
          refine Plan.pickTb rfl rfl rfl ?_
          refine Plan.move_bool rfl rfl ?_
          refine Plan.idxArr1 (j := 0) FLaw07.arr23 rfl rfl rfl (by omega) ?_
          refine Plan.load1 (j := 0) h46 5 rfl rfl rfl (by omega) FLaw07.sc5 ?_
          by_cases hc52 : (x_17 0) = 143#8
          ·
            replace hR := ifT hR hc52
            refine Plan.cmpV (a := ((x_17 0).toNat : Int)) (b := ((143#8).toNat : Int)) (p := (x_17 0) = 143#8) (v := true) rfl rfl rfl rfl icmp_eqU (decide_eq_true hc52) ?_
            refine Plan.pickTb rfl rfl rfl ?_
            refine Plan.move_bool rfl rfl ?_
            refine Plan.idxArr1 (j := 31) FLaw07.arr23 rfl rfl rfl (by omega) ?_
            refine Plan.load1 (j := 31) h46 5 rfl rfl rfl (by omega) FLaw07.sc5 ?_
            by_cases hc53 : (x_17 31) = 95#8
            ·
              replace hR := ifT hR hc53
              refine Plan.cmpV (a := ((x_17 31).toNat : Int)) (b := ((95#8).toNat : Int)) (p := (x_17 31) = 95#8) (v := true) rfl rfl rfl rfl icmp_eqU (decide_eq_true hc53) ?_
              refine Plan.pickTb rfl rfl rfl ?_
              refine Plan.move_bool rfl rfl ?_
              refine Plan.idxArr1 (j := 0) FLaw07.arr23 rfl rfl rfl (by omega) ?_
              refine Plan.load1 (j := 0) h46 6 rfl rfl rfl (by omega) FLaw07.sc5 ?_
              by_cases hc54 : (x_21 0) = 62#8
              ·
                replace hR := ifT hR hc54
                refine Plan.cmpV (a := ((x_21 0).toNat : Int)) (b := ((62#8).toNat : Int)) (p := (x_21 0) = 62#8) (v := true) rfl rfl rfl rfl icmp_eqU (decide_eq_true hc54) ?_
                refine Plan.pickTb rfl rfl rfl ?_
                refine Plan.move_bool rfl rfl ?_
                refine Plan.idxArr1 (j := 31) FLaw07.arr23 rfl rfl rfl (by omega) ?_
                refine Plan.load1 (j := 31) h46 6 rfl rfl rfl (by omega) FLaw07.sc5 ?_
                by_cases hc55 : (x_21 31) = 21#8
                ·
                  replace hR := ifT hR hc55
                  refine Plan.cmpV (a := ((x_21 31).toNat : Int)) (b := ((21#8).toNat : Int)) (p := (x_21 31) = 21#8) (v := true) rfl rfl rfl rfl icmp_eqU (decide_eq_true hc55) ?_
                  refine Plan.pickTb rfl rfl rfl ?_
                  refine Plan.move_bool rfl rfl ?_
                  refine Plan.idxArr1 (j := 0) FLaw07.arr23 rfl rfl rfl (by omega) ?_
                  refine Plan.load1 (j := 0) h46 2 rfl rfl rfl (by omega) FLaw07.sc5 ?_
                  by_cases hc56 : (x_28 0) = 48#8
                  ·
                    replace hR := ifT hR hc56
                    refine Plan.cmpV (a := ((x_28 0).toNat : Int)) (b := ((48#8).toNat : Int)) (p := (x_28 0) = 48#8) (v := true) rfl rfl rfl rfl icmp_eqU (decide_eq_true hc56) ?_
                    refine Plan.pickTb rfl rfl rfl ?_
                    refine Plan.move_bool rfl rfl ?_
                    refine Plan.idxArr1 (j := 31) FLaw07.arr23 rfl rfl rfl (by omega) ?_
                    refine Plan.load1 (j := 31) h46 2 rfl rfl rfl (by omega) FLaw07.sc5 ?_
                    refine Plan.cmpP (a := ((x_28 31).toNat : Int)) (b := ((61#8).toNat : Int)) (p := (x_28 31) = 61#8) rfl rfl rfl rfl icmp_eqU ?_
                    refine Plan.pickTb rfl rfl rfl ?_
                    refine Plan.assign_bool rfl rfl ?_
                    refine Plan.nil ?_
                    refine hK47 _ _ ?_; clear hK47
                    refine W.ret (finR_ret ?_)
                    have h57 := St.pickT (C := [_, _, _, _, _, _, _]) h46 [] (by decide)
                    simp only [pick, List.filterMap_cons, List.filterMap_nil, List.getElem?_cons_zero, List.getElem?_cons_succ, List.cons_append, List.nil_append] at h57
                    subst r
                    refine RetOk.mk (.tmp_bool rfl .nil) ?_
                    exact ⟨rfl, h57⟩
                  ·
                    replace hR := ifF hR hc56
                    refine Plan.cmpV (a := ((x_28 0).toNat : Int)) (b := ((48#8).toNat : Int)) (p := (x_28 0) = 48#8) (v := false) rfl rfl rfl rfl icmp_eqU (decide_eq_false hc56) ?_
                    refine Plan.pickTb rfl rfl rfl ?_
                    refine Plan.move_bool rfl rfl ?_
                    refine Plan.passed rfl ?_
                    refine Plan.passed rfl ?_
                    refine Plan.passed rfl ?_
                    refine Plan.pickFb rfl rfl rfl ?_
                    refine Plan.assign_bool rfl rfl ?_
                    refine Plan.nil ?_
                    refine hK47 _ _ ?_; clear hK47
                    refine W.ret (finR_ret ?_)
                    have h58 := St.pickT (C := [_, _, _, _, _, _, _]) h46 [] (by decide)
                    simp only [pick, List.filterMap_cons, List.filterMap_nil, List.getElem?_cons_zero, List.getElem?_cons_succ, List.cons_append, List.nil_append] at h58
                    subst r
                    refine RetOk.mk (.tmp_bool rfl .nil) ?_
                    exact ⟨rfl, h58⟩
                ·
                  replace hR := ifF hR hc55
                  refine Plan.cmpV (a := ((x_21 31).toNat : Int)) (b := ((21#8).toNat : Int)) (p := (x_21 31) = 21#8) (v := false) rfl rfl rfl rfl icmp_eqU (decide_eq_false hc55) ?_
                  refine Plan.pickTb rfl rfl rfl ?_
                  refine Plan.move_bool rfl rfl ?_
                  refine Plan.passed rfl ?_
                  refine Plan.passed rfl ?_
                  refine Plan.passed rfl ?_
                  refine Plan.pickFb rfl rfl rfl ?_
                  refine Plan.move_bool rfl rfl ?_
                  refine Plan.passed rfl ?_
                  refine Plan.passed rfl ?_
                  refine Plan.passed rfl ?_
                  refine Plan.pickFb rfl rfl rfl ?_
                  refine Plan.assign_bool rfl rfl ?_
                  refine Plan.nil ?_
                  refine hK47 _ _ ?_; clear hK47
                  refine W.ret (finR_ret ?_)
                  have h59 := St.pickT (C := [_, _, _, _, _, _, _]) h46 [] (by decide)
                  simp only [pick, List.filterMap_cons, List.filterMap_nil, List.getElem?_cons_zero, List.getElem?_cons_succ, List.cons_append, List.nil_append] at h59
                  subst r
                  refine RetOk.mk (.tmp_bool rfl .nil) ?_
                  exact ⟨rfl, h59⟩
              ·
                replace hR := ifF hR hc54
                refine Plan.cmpV (a := ((x_21 0).toNat : Int)) (b := ((62#8).toNat : Int)) (p := (x_21 0) = 62#8) (v := false) rfl rfl rfl rfl icmp_eqU (decide_eq_false hc54) ?_
                refine Plan.pickTb rfl rfl rfl ?_
                refine Plan.move_bool rfl rfl ?_
                refine Plan.passed rfl ?_
                refine Plan.passed rfl ?_
                refine Plan.passed rfl ?_
                refine Plan.pickFb rfl rfl rfl ?_
                refine Plan.move_bool rfl rfl ?_
                refine Plan.passed rfl ?_
                refine Plan.passed rfl ?_
                refine Plan.passed rfl ?_
                refine Plan.pickFb rfl rfl rfl ?_
                refine Plan.move_bool rfl rfl ?_
                refine Plan.passed rfl ?_
                refine Plan.passed rfl ?_
                refine Plan.passed rfl ?_
                refine Plan.pickFb rfl rfl rfl ?_
                refine Plan.assign_bool rfl rfl ?_
                refine Plan.nil ?_
                refine hK47 _ _ ?_; clear hK47
                refine W.ret (finR_ret ?_)
                have h60 := St.pickT (C := [_, _, _, _, _, _, _]) h46 [] (by decide)
                simp only [pick, List.filterMap_cons, List.filterMap_nil, List.getElem?_cons_zero, List.getElem?_cons_succ, List.cons_append, List.nil_append] at h60
                subst r
                refine RetOk.mk (.tmp_bool rfl .nil) ?_
                exact ⟨rfl, h60⟩
            ·
              replace hR := ifF hR hc53
              refine Plan.cmpV (a := ((x_17 31).toNat : Int)) (b := ((95#8).toNat : Int)) (p := (x_17 31) = 95#8) (v := false) rfl rfl rfl rfl icmp_eqU (decide_eq_false hc53) ?_
              refine Plan.pickTb rfl rfl rfl ?_
              refine Plan.move_bool rfl rfl ?_
              refine Plan.passed rfl ?_
              refine Plan.passed rfl ?_
              refine Plan.passed rfl ?_
              refine Plan.pickFb rfl rfl rfl ?_
              refine Plan.move_bool rfl rfl ?_
              refine Plan.passed rfl ?_
              refine Plan.passed rfl ?_
              refine Plan.passed rfl ?_
              refine Plan.pickFb rfl rfl rfl ?_
              refine Plan.move_bool rfl rfl ?_
              refine Plan.passed rfl ?_
              refine Plan.passed rfl ?_
              refine Plan.passed rfl ?_
              refine Plan.pickFb rfl rfl rfl ?_
              refine Plan.move_bool rfl rfl ?_
              refine Plan.passed rfl ?_
              refine Plan.passed rfl ?_
              refine Plan.passed rfl ?_
              refine Plan.pickFb rfl rfl rfl ?_
              refine Plan.assign_bool rfl rfl ?_
              refine Plan.nil ?_
              refine hK47 _ _ ?_; clear hK47
              refine W.ret (finR_ret ?_)
              have h61 := St.pickT (C := [_, _, _, _, _, _, _]) h46 [] (by decide)
              simp only [pick, List.filterMap_cons, List.filterMap_nil, List.getElem?_cons_zero, List.getElem?_cons_succ, List.cons_append, List.nil_append] at h61
              subst r
              refine RetOk.mk (.tmp_bool rfl .nil) ?_
              exact ⟨rfl, h61⟩
          ·
            replace hR := ifF hR hc52
            refine Plan.cmpV (a := ((x_17 0).toNat : Int)) (b := ((143#8).toNat : Int)) (p := (x_17 0) = 143#8) (v := false) rfl rfl rfl rfl icmp_eqU (decide_eq_false hc52) ?_
            refine Plan.pickTb rfl rfl rfl ?_
            refine Plan.move_bool rfl rfl ?_
            refine Plan.passed rfl ?_
            refine Plan.passed rfl ?_
            refine Plan.passed rfl ?_
            refine Plan.pickFb rfl rfl rfl ?_
            refine Plan.move_bool rfl rfl ?_
            refine Plan.passed rfl ?_
            refine Plan.passed rfl ?_
            refine Plan.passed rfl ?_
            refine Plan.pickFb rfl rfl rfl ?_
            refine Plan.move_bool rfl rfl ?_
            refine Plan.passed rfl ?_
            refine Plan.passed rfl ?_
            refine Plan.passed rfl ?_
            refine Plan.pickFb rfl rfl rfl ?_
            refine Plan.move_bool rfl rfl ?_
            refine Plan.passed rfl ?_
            refine Plan.passed rfl ?_
            refine Plan.passed rfl ?_
            refine Plan.pickFb rfl rfl rfl ?_
            refine Plan.move_bool rfl rfl ?_
            refine Plan.passed rfl ?_
            refine Plan.passed rfl ?_
            refine Plan.passed rfl ?_
            refine Plan.pickFb rfl rfl rfl ?_
            refine Plan.assign_bool rfl rfl ?_
            refine Plan.nil ?_
            refine hK47 _ _ ?_; clear hK47
            refine W.ret (finR_ret ?_)
            have h62 := St.pickT (C := [_, _, _, _, _, _, _]) h46 [] (by decide)
            simp only [pick, List.filterMap_cons, List.filterMap_nil, List.getElem?_cons_zero, List.getElem?_cons_succ, List.cons_append, List.nil_append] at h62
            subst r
            refine RetOk.mk (.tmp_bool rfl .nil) ?_
            exact ⟨rfl, h62⟩
        ·
          replace hR := ifF hR hc51
          refine Plan.eqArrV (b := false) FLaw07.arrI23 rfl rfl rfl (Bool.eq_false_iff.2 hc51) ?_
          refine Plan.pickTb rfl rfl rfl ?_
          refine Plan.move_bool rfl rfl ?_
          refine Plan.passed rfl ?_
          refine Plan.passed rfl ?_
          refine Plan.passed rfl ?_
          refine Plan.pickFb rfl rfl rfl ?_
          refine Plan.move_bool rfl rfl ?_
          refine Plan.passed rfl ?_
          refine Plan.passed rfl ?_
          refine Plan.passed rfl ?_
          refine Plan.pickFb rfl rfl rfl ?_
          refine Plan.move_bool rfl rfl ?_
          refine Plan.passed rfl ?_
          refine Plan.passed rfl ?_
          refine Plan.passed rfl ?_
          refine Plan.pickFb rfl rfl rfl ?_
          refine Plan.move_bool rfl rfl ?_
          refine Plan.passed rfl ?_
          refine Plan.passed rfl ?_
          refine Plan.passed rfl ?_
          refine Plan.pickFb rfl rfl rfl ?_
          refine Plan.move_bool rfl rfl ?_
          refine Plan.passed rfl ?_
          refine Plan.passed rfl ?_
          refine Plan.passed rfl ?_
          refine Plan.pickFb rfl rfl rfl ?_
          refine Plan.move_bool rfl rfl ?_
          refine Plan.passed rfl ?_
          refine Plan.passed rfl ?_
          refine Plan.passed rfl ?_
          refine Plan.pickFb rfl rfl rfl ?_
          refine Plan.assign_bool rfl rfl ?_
          refine Plan.nil ?_
          refine hK47 _ _ ?_; clear hK47
          refine W.ret (finR_ret ?_)
          have h63 := St.pickT (C := [_, _, _, _, _, _, _]) h46 [] (by decide)
          simp only [pick, List.filterMap_cons, List.filterMap_nil, List.getElem?_cons_zero, List.getElem?_cons_succ, List.cons_append, List.nil_append] at h63
          subst r
          refine RetOk.mk (.tmp_bool rfl .nil) ?_
          exact ⟨rfl, h63⟩
      ·
        replace hR := ifF hR hc50
        refine Plan.cmpV (a := (((x_43 : Nat) : Int) : Int)) (b := (70 : Int)) (p := x_43 = 70) (v := false) rfl rfl rfl rfl icmp_eqN (decide_eq_false hc50) ?_
        refine Plan.pickTb rfl rfl rfl ?_
        refine Plan.move_bool rfl rfl ?_
        refine Plan.passed rfl ?_
        refine Plan.passed rfl ?_
        refine Plan.passed rfl ?_
        refine Plan.pickFb rfl rfl rfl ?_
        refine Plan.move_bool rfl rfl ?_
        refine Plan.passed rfl ?_
        refine Plan.passed rfl ?_
        refine Plan.passed rfl ?_
        refine Plan.pickFb rfl rfl rfl ?_
        refine Plan.move_bool rfl rfl ?_
        refine Plan.passed rfl ?_
        refine Plan.passed rfl ?_
        refine Plan.passed rfl ?_
        refine Plan.pickFb rfl rfl rfl ?_
        refine Plan.move_bool rfl rfl ?_
        refine Plan.passed rfl ?_
        refine Plan.passed rfl ?_
        refine Plan.passed rfl ?_
        refine Plan.pickFb rfl rfl rfl ?_
        refine Plan.move_bool rfl rfl ?_
        refine Plan.passed rfl ?_
        refine Plan.passed rfl ?_
        refine Plan.passed rfl ?_
        refine Plan.pickFb rfl rfl rfl ?_
        refine Plan.move_bool rfl rfl ?_
        refine Plan.passed rfl ?_
        refine Plan.passed rfl ?_
        refine Plan.passed rfl ?_
        refine Plan.pickFb rfl rfl rfl ?_
        refine Plan.move_bool rfl rfl ?_
        refine Plan.passed rfl ?_
        refine Plan.passed rfl ?_
        refine Plan.passed rfl ?_
        refine Plan.pickFb rfl rfl rfl ?_
        refine Plan.assign_bool rfl rfl ?_
        refine Plan.nil ?_
        refine hK47 _ _ ?_; clear hK47
        refine W.ret (finR_ret ?_)
        have h64 := St.pickT (C := [_, _, _, _, _, _, _]) h46 [] (by decide)
        simp only [pick, List.filterMap_cons, List.filterMap_nil, List.getElem?_cons_zero, List.getElem?_cons_succ, List.cons_append, List.nil_append] at h64
        subst r
        refine RetOk.mk (.tmp_bool rfl .nil) ?_
        exact ⟨rfl, h64⟩
    ·
      replace hR := ifF hR hc49
      refine Plan.cmpV (a := (((x_36 : Nat) : Int) : Int)) (b := (0 : Int)) (p := x_36 = 0) (v := false) rfl rfl rfl rfl icmp_eqN (decide_eq_false hc49) ?_
      refine Plan.pickTb rfl rfl rfl ?_
      refine Plan.move_bool rfl rfl ?_
      refine Plan.passed rfl ?_
      refine Plan.passed rfl ?_
      refine Plan.pickFb rfl rfl rfl ?_
      refine Plan.move_bool rfl rfl ?_
      refine Plan.passed rfl ?_
      refine Plan.passed rfl ?_
      refine Plan.passed rfl ?_
      refine Plan.pickFb rfl rfl rfl ?_
      refine Plan.move_bool rfl rfl ?_
      refine Plan.passed rfl ?_
      refine Plan.passed rfl ?_
      refine Plan.passed rfl ?_
      refine Plan.pickFb rfl rfl rfl ?_
      refine Plan.move_bool rfl rfl ?_
      refine Plan.passed rfl ?_
      refine Plan.passed rfl ?_
      refine Plan.passed rfl ?_
      refine Plan.pickFb rfl rfl rfl ?_
      refine Plan.move_bool rfl rfl ?_
      refine Plan.passed rfl ?_
      refine Plan.passed rfl ?_
      refine Plan.passed rfl ?_
      refine Plan.pickFb rfl rfl rfl ?_
      refine Plan.move_bool rfl rfl ?_
      refine Plan.passed rfl ?_
      refine Plan.passed rfl ?_
      refine Plan.passed rfl ?_
      refine Plan.pickFb rfl rfl rfl ?_
      refine Plan.move_bool rfl rfl ?_
      refine Plan.passed rfl ?_
      refine Plan.passed rfl ?_
      refine Plan.passed rfl ?_
      refine Plan.pickFb rfl rfl rfl ?_
      refine Plan.move_bool rfl rfl ?_
      refine Plan.passed rfl ?_
      refine Plan.passed rfl ?_
      refine Plan.passed rfl ?_
      refine Plan.pickFb rfl rfl rfl ?_
      refine Plan.assign_bool rfl rfl ?_
      refine Plan.nil ?_
      refine hK47 _ _ ?_; clear hK47
      refine W.ret (finR_ret ?_)
      have h65 := St.pickT (C := [_, _, _, _, _, _, _]) h46 [] (by decide)
      simp only [pick, List.filterMap_cons, List.filterMap_nil, List.getElem?_cons_zero, List.getElem?_cons_succ, List.cons_append, List.nil_append] at h65
      subst r
      refine RetOk.mk (.tmp_bool rfl .nil) ?_
      exact ⟨rfl, h65⟩
  ·
    replace hR := ifF hR hc48
    refine Plan.cmpV (a := (((x_29 : Nat) : Int) : Int)) (b := (0 : Int)) (p := x_29 = 0) (v := false) rfl rfl rfl rfl icmp_eqN (decide_eq_false hc48) ?_
    refine Plan.move_bool rfl rfl ?_
    refine Plan.passed rfl ?_
    refine Plan.passed rfl ?_
    refine Plan.pickFb rfl rfl rfl ?_
    refine Plan.move_bool rfl rfl ?_
    refine Plan.passed rfl ?_
    refine Plan.passed rfl ?_
    refine Plan.pickFb rfl rfl rfl ?_
    refine Plan.move_bool rfl rfl ?_
    refine Plan.passed rfl ?_
    refine Plan.passed rfl ?_
    refine Plan.passed rfl ?_
    refine Plan.pickFb rfl rfl rfl ?_
    refine Plan.move_bool rfl rfl ?_
    refine Plan.passed rfl ?_
    refine Plan.passed rfl ?_
    refine Plan.passed rfl ?_
    refine Plan.pickFb rfl rfl rfl ?_
    refine Plan.move_bool rfl rfl ?_
    refine Plan.passed rfl ?_
    refine Plan.passed rfl ?_
    refine Plan.passed rfl ?_
    refine Plan.pickFb rfl rfl rfl ?_
    refine Plan.move_bool rfl rfl ?_
    refine Plan.passed rfl ?_
    refine Plan.passed rfl ?_
    refine Plan.passed rfl ?_
    refine Plan.pickFb rfl rfl rfl ?_
    refine Plan.move_bool rfl rfl ?_
    refine Plan.passed rfl ?_
    refine Plan.passed rfl ?_
    refine Plan.passed rfl ?_
    refine Plan.pickFb rfl rfl rfl ?_
    refine Plan.move_bool rfl rfl ?_
    refine Plan.passed rfl ?_
    refine Plan.passed rfl ?_
    refine Plan.passed rfl ?_
    refine Plan.pickFb rfl rfl rfl ?_
    refine Plan.move_bool rfl rfl ?_
    refine Plan.passed rfl ?_
    refine Plan.passed rfl ?_
    refine Plan.passed rfl ?_
    refine Plan.pickFb rfl rfl rfl ?_
    refine Plan.assign_bool rfl rfl ?_
    refine Plan.nil ?_
    refine hK47 _ _ ?_; clear hK47
    refine W.ret (finR_ret ?_)
    have h66 := St.pickT (C := [_, _, _, _, _, _, _]) h46 [] (by decide)
    simp only [pick, List.filterMap_cons, List.filterMap_nil, List.getElem?_cons_zero, List.getElem?_cons_succ, List.cons_append, List.nil_append] at h66
    subst r
    refine RetOk.mk (.tmp_bool rfl .nil) ?_
    exact ⟨rfl, h66⟩


set_option maxRecDepth 8000 in
set_option maxHeartbeats 1000000 in
theorem lethelaw07_reduced_ok {B : Nat} {w0 w : World} {L : List Rg} {k1 : Nat → BitVec 8} {r : Bool} (hR : lethelaw07_reduced k1 r) (HST : St B w0 (L) w) :
    Calls Tryd.prog 25 #[AG [(32, fun q => VU .u8 (k1 q))]] w fun e w' => e = .returned (.bool r) ∧ St B w0 (L) w' := by
  refine W.enter 22 Tryd.func25 rfl rfl rfl ?_
  unfold lethelaw07_reduced at hR
  refine W.seq_k fun K2 hK2 => ?_
  refine W.regionT [(0, false), (1, true)] (by kernel_rfl) ?_
  refine Plan.boxA HST rfl rfl PIn.nil fun b3 w3 hb3 h3 => ?_
  simp only [rngs, Nat.zero_add, Nat.reduceAdd, List.cons_append, List.nil_append] at h3
  refine Plan.assign_bool rfl rfl ?_
  refine Plan.nil ?_
  refine hK2 _ _ ?_; clear hK2
  refine W.seq_k fun K4 hK4 => ?_
  refine W.seq_k fun K5 hK5 => ?_
  refine W.regionT [(0, true), (1, true), (2, true)] (by kernel_rfl) ?_
  refine Plan.idxArr1 (j := 31) FLaw07.arr23 rfl rfl rfl (by omega) ?_
  refine Plan.load1 (j := 31) h3 0 rfl rfl rfl (by omega) FLaw07.sc5 ?_
  refine Plan.cmpP (a := ((k1 31).toNat : Int)) (b := ((128#8).toNat : Int)) (p := (128#8).toNat ≤ (k1 31).toNat) rfl rfl rfl rfl icmp_geN ?_
  refine Plan.nil ?_
  refine hK5 _ _ ?_; clear hK5
  by_cases hc6 : (128#8).toNat ≤ (k1 31).toNat
  ·
    replace hR := ifT hR hc6
    refine W.condT (congrArg Value.bool (decide_eq_true hc6)) ?_
    refine W.seq_k fun K7 hK7 => ?_
    refine W.regionT [(0, true)] (by kernel_rfl) ?_
    refine Plan.assign_bool rfl rfl ?_
    refine Plan.nil ?_
    refine hK7 _ _ ?_; clear hK7
    refine W.ret (thenR_ret (finR_ret ?_))
    have h8 := St.pickT (C := [_]) h3 [] (by decide)
    simp only [pick, List.filterMap_cons, List.filterMap_nil, List.getElem?_cons_zero, List.getElem?_cons_succ, List.cons_append, List.nil_append] at h8
    subst r
    refine RetOk.mk (.tmp_bool rfl .nil) ?_
    exact ⟨rfl, h8⟩
  ·
    replace hR := ifF hR hc6
    refine W.condF (congrArg Value.bool (decide_eq_false hc6)) ?_
    refine W.skip ?_
    refine hK4 _ _ ?_; clear hK4
    refine W.seq_k fun K9 hK9 => ?_
    refine W.seq_k fun K10 hK10 => ?_
    refine W.regionT [(0, true)] (by kernel_rfl) ?_
    refine Plan.assign_int rfl rfl ?_
    refine Plan.nil ?_
    refine hK10 _ _ ?_; clear hK10
    obtain ⟨x66, hI66, hR066⟩ := hR
    refine W.cutN (fun e w => x66 = some () ∧ EnvHas e [(1, .pointer (some ⟨b3, 0, none⟩))] ∧ St B w0 (⟨some b3, 0, 32, fun q => VU .u8 (k1 q), true⟩ :: L) w) ?_ ?_
    ·
      refine W.block ?_
      refine W.iter hI66 (fun (s66 : Int) e w => EnvHas e [(1, .pointer (some ⟨b3, 0, none⟩)), (3, .int .i64 s66)] ∧ St B w0 (⟨some b3, 0, 32, fun q => VU .u8 (k1 q), true⟩ :: L) w) ⟨(EnvHas.cons rfl (EnvHas.cons rfl EnvHas.nil)), h3⟩ ?_
      rintro i_65 o66 hR hx66 ev67 wl67 ⟨he67, h67⟩
      obtain ⟨ev67, rfl⟩ := he67.open
      unfold lethelaw07_reduced_l0 at hR
      refine W.seq_k fun K68 hK68 => ?_
      refine W.seq_k fun K69 hK69 => ?_
      refine W.regionT [(0, true), (1, true)] (by kernel_rfl) ?_
      refine Plan.move_int rfl rfl ?_
      refine Plan.cmpP (a := (i_65 : Int)) (b := (0 : Int)) (p := 0 < i_65) rfl rfl rfl rfl icmp_gt ?_
      refine Plan.nil ?_
      refine hK69 _ _ ?_; clear hK69
      by_cases hc70 : 0 < i_65
      ·
        replace hR := ifT hR hc70
        refine W.condT (congrArg Value.bool (decide_eq_true hc70)) ?_
        refine W.skip ?_
        refine hK68 _ _ ?_; clear hK68
        refine W.seq_k fun K71 hK71 => ?_
        refine W.block ?_
        refine W.seq_k fun K72 hK72 => ?_
        refine W.regionT [(0, true)] (by kernel_rfl) ?_
        refine Plan.assign_int rfl rfl ?_
        refine Plan.nil ?_
        refine hK72 _ _ ?_; clear hK72
        refine W.seq_k fun K73 hK73 => ?_
        obtain ⟨full76, hX77, hR077⟩ := hR
        refine W.cutN (fun e w => ∃ y_full76 : BitVec 8, (full76 = y_full76) ∧ EnvHas e [(1, .pointer (some ⟨b3, 0, none⟩)), (3, .int .i64 i_65), (4, VU .u8 y_full76)] ∧ St B w0 (⟨some b3, 0, 32, fun q => VU .u8 (k1 q), true⟩ :: L) w) ?_ ?_
        ·
          replace hR := hX77
          refine W.seq_k fun K78 hK78 => ?_
          refine W.regionT [(0, true), (1, true)] (by kernel_rfl) ?_
          refine Plan.move_int rfl rfl ?_
          refine Plan.cmpP (a := (i_65 : Int)) (b := (31 : Int)) (p := i_65 = 31) rfl rfl rfl rfl icmp_eq ?_
          refine Plan.nil ?_
          refine hK78 _ _ ?_; clear hK78
          by_cases hc79 : i_65 = 31
          ·
            replace hR := ifT hR hc79
            refine W.condT (congrArg Value.bool (decide_eq_true hc79)) ?_
            refine W.regionT [(0, true)] (by kernel_rfl) ?_
            refine Plan.assign_int rfl rfl ?_
            refine Plan.nil ?_
            exact ⟨127#8, hR, (EnvHas.cons rfl (EnvHas.cons rfl (EnvHas.cons rfl EnvHas.nil))), h67⟩
          ·
            replace hR := ifF hR hc79
            refine W.condF (congrArg Value.bool (decide_eq_false hc79)) ?_
            refine W.skip ?_
            exact ⟨255#8, hR, (EnvHas.cons rfl (EnvHas.cons rfl (EnvHas.cons rfl EnvHas.nil))), h67⟩
        ·
          rintro ev80 wl80 ⟨y_full76, hy80_0, he80, h80⟩
          subst hy80_0
          obtain ⟨ev80, rfl⟩ := he80.open
          replace hR := hR077
          refine hK73 _ _ ?_; clear hK73
          refine W.seq_k fun K81 hK81 => ?_
          refine W.regionT [(0, true), (1, true), (2, true), (3, true), (4, true)] (by kernel_rfl) ?_
          refine Plan.move_int rfl rfl ?_
          obtain ⟨hc82, hR⟩ := hR
          refine Plan.idxArr1 (j := i_65.toNat) FLaw07.arr23 rfl rfl (congrArg (Value.int .i64) (Int.toNat_of_nonneg hc82.1).symm) (by omega) ?_
          refine Plan.load1 (j := i_65.toNat) h80 0 rfl rfl rfl (by omega) FLaw07.sc5 ?_
          refine Plan.move_int rfl rfl ?_
          refine Plan.cmpP (a := ((k1 i_65.toNat).toNat : Int)) (b := (full76.toNat : Int)) (p := (k1 i_65.toNat) ≠ full76) rfl rfl rfl rfl icmp_neU ?_
          refine Plan.nil ?_
          refine hK81 _ _ ?_; clear hK81
          by_cases hc83 : (k1 i_65.toNat) ≠ full76
          ·
            replace hR := ifT hR hc83
            refine W.condT (congrArg Value.bool (decide_eq_true hc83)) ?_
            refine W.seq_k fun K84 hK84 => ?_
            refine W.regionT [(0, true)] (by kernel_rfl) ?_
            refine Plan.assign_bool rfl rfl ?_
            refine Plan.nil ?_
            refine hK84 _ _ ?_; clear hK84
            refine W.ret (blockR_ret (thenR_ret (iterR_ret (blockR_ret (thenR_ret (thenR_ret (finR_ret ?_)))))))
            have h85 := St.pickT (C := [_]) h80 [] (by decide)
            simp only [pick, List.filterMap_cons, List.filterMap_nil, List.getElem?_cons_zero, List.getElem?_cons_succ, List.cons_append, List.nil_append] at h85
            replace hR := hR.2
            subst r
            refine RetOk.mk (.tmp_bool rfl .nil) ?_
            exact ⟨rfl, h85⟩
          ·
            replace hR := ifF hR hc83
            refine W.condF (congrArg Value.bool (decide_eq_false hc83)) ?_
            refine W.skip ?_
            refine blockR_norm ?_
            refine hK71 _ _ ?_; clear hK71
            refine W.regionT [(0, true), (1, true), (2, true)] (by kernel_rfl) ?_
            refine Plan.move_int rfl rfl ?_
            obtain ⟨hc86, hR⟩ := hR
            refine Plan.subI (a := i_65) (b := 1) rfl rfl rfl (by omega) ?_
            refine Plan.assign_int rfl rfl ?_
            refine Plan.nil ?_
            exact iterR_norm ⟨_, hR, (EnvHas.cons rfl (EnvHas.cons rfl EnvHas.nil)), h80⟩
      ·
        replace hR := ifF hR hc70
        refine W.condF (congrArg Value.bool (decide_eq_false hc70)) ?_
        refine W.exit (thenR_exit (iterR_exit (blockR_here ?_)))
        exact ⟨(hx66 _ hR).symm, (EnvHas.cons rfl EnvHas.nil), h67⟩
    ·
      rintro ev87 wl87 ⟨hy87, he87, h87⟩
      obtain ⟨ev87, rfl⟩ := he87.open
      replace hR := hR066  hy87
      refine hK9 _ _ ?_; clear hK9
      refine W.seq_k fun K88 hK88 => ?_
      refine W.regionT [(0, true), (1, true), (2, true), (3, true)] (by kernel_rfl) ?_
      refine Plan.idxArr1 (j := 0) FLaw07.arr23 rfl rfl rfl (by omega) ?_
      refine Plan.load1 (j := 0) h87 0 rfl rfl rfl (by omega) FLaw07.sc5 ?_
      refine Plan.cmpP (a := ((k1 0).toNat : Int)) (b := ((237#8).toNat : Int)) (p := (k1 0).toNat < (237#8).toNat) rfl rfl rfl rfl icmp_ltN ?_
      refine Plan.assign_bool rfl rfl ?_
      refine Plan.nil ?_
      refine hK88 _ _ ?_; clear hK88
      refine W.ret (finR_ret ?_)
      have h89 := St.pickT (C := [_]) h87 [] (by decide)
      simp only [pick, List.filterMap_cons, List.filterMap_nil, List.getElem?_cons_zero, List.getElem?_cons_succ, List.cons_append, List.nil_append] at h89
      subst r
      refine RetOk.mk (.tmp_bool rfl .nil) ?_
      exact ⟨rfl, h89⟩


set_option maxRecDepth 8000 in
set_option maxHeartbeats 1000000 in
theorem lethelaw07_low_ok {B : Nat} {w0 w : World} {L : List Rg}  {r : (List (Nat → BitVec 8))} (hR : lethelaw07_low r) (HST : St B w0 (L) w) :
    Calls Tryd.prog 27 #[] w fun e w' => ∃ ay0 : Option Addr, ∃ py0 : Option Nat, ∃ ny0 : Nat, ∃ cy0 : Nat, ∃ Fy0 : Nat → Value, e = .returned (.slice ay0 ny0 cy0) ∧ St B w0 (⟨py0, 0, cy0 * 32, Fy0, true⟩ :: L) w' ∧ LO D23 [] ay0 py0 ny0 cy0 Fy0 r := by
  refine W.enter 23 Tryd.func27 rfl rfl rfl ?_
  unfold lethelaw07_low at hR
  refine W.seq_k fun K1 hK1 => ?_
  refine W.regionT [(0, true)] (by kernel_rfl) ?_
  refine Plan.assign_slice rfl rfl ?_
  refine Plan.nil ?_
  refine hK1 _ _ ?_; clear hK1
  refine W.seq_k fun K2 hK2 => ?_
  refine W.regionT [(0, true), (1, false), (2, false)] (by kernel_rfl) ?_
  refine Plan.buildArr (ps := [(32, fun q => VU .u8 ((upd (fun _ => 0#8) 0 (1#8)) q))]) FLaw07.arr23 FLaw07.z23 rfl rfl (by kernel_rfl) ?_
  refine Plan.alloc HST rfl FLaw07.z23 PIn.nil fun b3 w3 hb3 h3 => ?_
  simp only [rngs, Nat.zero_add, Nat.reduceAdd, List.cons_append, List.nil_append] at h3
  refine Plan.storeA (f' := fun q => VU .u8 ((upd (fun _ => 0#8) 0 (1#8)) q)) h3 0 rfl rfl rfl rfl (fun _ _ => rfl) FLaw07.sz23 rfl fun w4 h4 => ?_
  simp only [List.cons_append, List.nil_append, List.set_cons_zero, List.set_cons_succ] at h4
  refine Plan.nil ?_
  refine hK2 _ _ ?_; clear hK2
  refine W.seq_k fun K5 hK5 => ?_
  refine W.regionT [(0, true), (1, false), (2, false)] (by kernel_rfl) ?_
  refine Plan.buildArr (ps := [(32, fun q => VU .u8 ((upd (fun _ => 0#8) 0 (236#8)) q))]) FLaw07.arr23 FLaw07.z23 rfl rfl (by kernel_rfl) ?_
  refine Plan.alloc h4 rfl FLaw07.z23 PIn.nil fun b6 w6 hb6 h6 => ?_
  simp only [rngs, Nat.zero_add, Nat.reduceAdd, List.cons_append, List.nil_append] at h6
  refine Plan.storeA (f' := fun q => VU .u8 ((upd (fun _ => 0#8) 0 (236#8)) q)) h6 0 rfl rfl rfl rfl (fun _ _ => rfl) FLaw07.sz23 rfl fun w7 h7 => ?_
  simp only [List.cons_append, List.nil_append, List.set_cons_zero, List.set_cons_succ] at h7
  refine Plan.nil ?_
  refine hK5 _ _ ?_; clear hK5
  refine W.seq_k fun K8 hK8 => ?_
  refine W.seq_k fun K9 hK9 => ?_
  refine W.regionT [(0, true)] (by kernel_rfl) ?_
  refine Plan.assign_int rfl rfl ?_
  refine Plan.nil ?_
  refine hK9 _ _ ?_; clear hK9
  obtain ⟨m24, hI25, hR025⟩ := hR
  refine W.cutN (fun e w => ∃ y_m24 : Nat → BitVec 8, m24 = y_m24 ∧ EnvHas e [(1, .pointer (some ⟨b3, 0, none⟩)), (2, .pointer (some ⟨b6, 0, none⟩))] ∧ St B w0 (⟨some b6, 0, 32, fun q => VU .u8 (y_m24 q), true⟩ :: ⟨some b3, 0, 32, fun q => VU .u8 ((upd (fun _ => 0#8) 0 (1#8)) q), true⟩ :: L) w) ?_ ?_
  ·
    refine W.block ?_
    refine W.iter hI25 (fun (s25 : (Nat × (Nat → BitVec 8))) e w => EnvHas e [(1, .pointer (some ⟨b3, 0, none⟩)), (2, .pointer (some ⟨b6, 0, none⟩)), (3, VN s25.1)] ∧ St B w0 (⟨some b6, 0, 32, fun q => VU .u8 (s25.2 q), true⟩ :: ⟨some b3, 0, 32, fun q => VU .u8 ((upd (fun _ => 0#8) 0 (1#8)) q), true⟩ :: L) w) ⟨(EnvHas.cons rfl (EnvHas.cons rfl (EnvHas.cons rfl EnvHas.nil))), h7⟩ ?_
    rintro ⟨i_22, m23⟩ o25 hR hx25 ev26 wl26 ⟨he26, h26⟩
    obtain ⟨ev26, rfl⟩ := he26.open
    unfold lethelaw07_low_l0 at hR
    refine W.seq_k fun K27 hK27 => ?_
    refine W.seq_k fun K28 hK28 => ?_
    refine W.regionT [(0, true), (1, true)] (by kernel_rfl) ?_
    refine Plan.move_int rfl rfl ?_
    refine Plan.cmpP (a := (((i_22 : Nat) : Int) : Int)) (b := (31 : Int)) (p := i_22 < 31) rfl rfl rfl rfl icmp_ltN ?_
    refine Plan.nil ?_
    refine hK28 _ _ ?_; clear hK28
    by_cases hc29 : i_22 < 31
    ·
      replace hR := ifT hR hc29
      refine W.condT (congrArg Value.bool (decide_eq_true hc29)) ?_
      refine W.skip ?_
      refine hK27 _ _ ?_; clear hK27
      refine W.seq_k fun K30 hK30 => ?_
      refine W.block ?_
      refine W.regionT [(0, true), (1, true), (2, false)] (by kernel_rfl) ?_
      refine Plan.move_int rfl rfl ?_
      refine Plan.idxArr1 (j := i_22) FLaw07.arr23 rfl rfl rfl (by omega) ?_
      refine Plan.storeU (j := i_22) (X := 255#8) h26 0 rfl rfl rfl rfl (by omega) FLaw07.sz5 rfl fun w31 h31 => ?_
      simp only [List.cons_append, List.nil_append, List.set_cons_zero, List.set_cons_succ] at h31
      refine Plan.nil ?_
      refine blockR_norm ?_
      refine hK30 _ _ ?_; clear hK30
      refine W.regionT [(0, true), (1, true), (2, true)] (by kernel_rfl) ?_
      refine Plan.move_int rfl rfl ?_
      refine Plan.addN (a := i_22) (b := 1) rfl rfl rfl (by omega) ?_
      refine Plan.assign_int rfl rfl ?_
      refine Plan.nil ?_
      exact iterR_norm ⟨_, hR, (EnvHas.cons rfl (EnvHas.cons rfl (EnvHas.cons rfl EnvHas.nil))), h31⟩
    ·
      replace hR := ifF hR hc29
      refine W.condF (congrArg Value.bool (decide_eq_false hc29)) ?_
      refine W.exit (thenR_exit (iterR_exit (blockR_here ?_)))
      exact ⟨m23, (hx25 _ hR).symm, (EnvHas.cons rfl (EnvHas.cons rfl EnvHas.nil)), h26⟩
  ·
    rintro ev32 wl32 ⟨y_m24, hy32, he32, h32⟩
    obtain ⟨ev32, rfl⟩ := he32.open
    subst hy32
    replace hR := hR025
    refine hK8 _ _ ?_; clear hK8
    refine W.seq_k fun K33 hK33 => ?_
    refine W.regionT [(0, true), (1, false)] (by kernel_rfl) ?_
    refine Plan.idxArr1 (j := 31) FLaw07.arr23 rfl rfl rfl (by omega) ?_
    refine Plan.storeU (j := 31) (X := 127#8) h32 0 rfl rfl rfl rfl (by omega) FLaw07.sz5 rfl fun w34 h34 => ?_
    simp only [List.cons_append, List.nil_append, List.set_cons_zero, List.set_cons_succ] at h34
    refine Plan.nil ?_
    refine hK33 _ _ ?_; clear hK33
    refine W.seq_k fun K35 hK35 => ?_
    refine W.regionT [(0, true), (1, false), (2, false)] (by kernel_rfl) ?_
    refine Plan.buildArr (ps := [(32, fun q => VU .u8 ((lit [224#8, 235#8, 122#8, 124#8, 59#8, 65#8, 184#8, 174#8, 22#8, 86#8, 227#8, 250#8, 241#8, 159#8, 196#8, 106#8, 218#8, 9#8, 141#8, 235#8, 156#8, 50#8, 177#8, 253#8, 134#8, 98#8, 5#8, 22#8, 95#8, 73#8, 184#8, 0#8]) q))]) FLaw07.arr23 FLaw07.z23 rfl rfl (by kernel_rfl) ?_
    refine Plan.alloc h34 rfl FLaw07.z23 PIn.nil fun b36 w36 hb36 h36 => ?_
    simp only [rngs, Nat.zero_add, Nat.reduceAdd, List.cons_append, List.nil_append] at h36
    refine Plan.storeA (f' := fun q => VU .u8 ((lit [224#8, 235#8, 122#8, 124#8, 59#8, 65#8, 184#8, 174#8, 22#8, 86#8, 227#8, 250#8, 241#8, 159#8, 196#8, 106#8, 218#8, 9#8, 141#8, 235#8, 156#8, 50#8, 177#8, 253#8, 134#8, 98#8, 5#8, 22#8, 95#8, 73#8, 184#8, 0#8]) q)) h36 0 rfl rfl rfl rfl (fun _ _ => rfl) FLaw07.sz23 rfl fun w37 h37 => ?_
    simp only [List.cons_append, List.nil_append, List.set_cons_zero, List.set_cons_succ] at h37
    refine Plan.nil ?_
    refine hK35 _ _ ?_; clear hK35
    refine W.seq_k fun K38 hK38 => ?_
    refine W.regionT [(0, true), (1, false), (2, false)] (by kernel_rfl) ?_
    refine Plan.buildArr (ps := [(32, fun q => VU .u8 ((lit [95#8, 156#8, 149#8, 188#8, 163#8, 80#8, 140#8, 36#8, 177#8, 208#8, 177#8, 85#8, 156#8, 131#8, 239#8, 91#8, 4#8, 68#8, 92#8, 196#8, 88#8, 28#8, 142#8, 134#8, 216#8, 34#8, 78#8, 221#8, 208#8, 159#8, 17#8, 87#8]) q))]) FLaw07.arr23 FLaw07.z23 rfl rfl (by kernel_rfl) ?_
    refine Plan.alloc h37 rfl FLaw07.z23 PIn.nil fun b39 w39 hb39 h39 => ?_
    simp only [rngs, Nat.zero_add, Nat.reduceAdd, List.cons_append, List.nil_append] at h39
    refine Plan.storeA (f' := fun q => VU .u8 ((lit [95#8, 156#8, 149#8, 188#8, 163#8, 80#8, 140#8, 36#8, 177#8, 208#8, 177#8, 85#8, 156#8, 131#8, 239#8, 91#8, 4#8, 68#8, 92#8, 196#8, 88#8, 28#8, 142#8, 134#8, 216#8, 34#8, 78#8, 221#8, 208#8, 159#8, 17#8, 87#8]) q)) h39 0 rfl rfl rfl rfl (fun _ _ => rfl) FLaw07.sz23 rfl fun w40 h40 => ?_
    simp only [List.cons_append, List.nil_append, List.set_cons_zero, List.set_cons_succ] at h40
    refine Plan.nil ?_
    refine hK38 _ _ ?_; clear hK38
    refine W.seq_k fun K41 hK41 => ?_
    refine W.regionT [(0, true), (1, true), (2, true), (3, true), (4, true), (5, false), (6, true)] (by kernel_rfl) ?_
    refine Plan.buildZ FLaw07.row23 FLaw07.z23 rfl ?_
    refine Plan.loadA1 h40 3 rfl rfl rfl FLaw07.agg23 ?_
    refine Plan.loadA1 h40 2 rfl rfl rfl FLaw07.agg23 ?_
    refine Plan.loadA1 h40 1 rfl rfl rfl FLaw07.agg23 ?_
    refine Plan.loadA1 h40 0 rfl rfl rfl FLaw07.agg23 ?_
    refine Plan.buildLO (D := D23) (sz := 32) h40 [((), (fun _ => 0#8)), ((), (upd (fun _ => 0#8) 0 (1#8))), ((), (upd m24 31 (127#8))), ((), (lit [224#8, 235#8, 122#8, 124#8, 59#8, 65#8, 184#8, 174#8, 22#8, 86#8, 227#8, 250#8, 241#8, 159#8, 196#8, 106#8, 218#8, 9#8, 141#8, 235#8, 156#8, 50#8, 177#8, 253#8, 134#8, 98#8, 5#8, 22#8, 95#8, 73#8, 184#8, 0#8])), ((), (lit [95#8, 156#8, 149#8, 188#8, 163#8, 80#8, 140#8, 36#8, 177#8, 208#8, 177#8, 85#8, 156#8, 131#8, 239#8, 91#8, 4#8, 68#8, 92#8, 196#8, 88#8, 28#8, 142#8, 134#8, 216#8, 34#8, 78#8, 221#8, 208#8, 159#8, 17#8, 87#8]))] FLaw07.slu59 FLaw07.sz23 FLaw07.zv23 (by decide) (by decide) rfl rfl rfl rfl (fun _ _ => trivial) (EffO.wait rfl) fun b43 w43 F43 hb43 ho43 h43 => ?_
    replace ho43 : LO D23 [] (some ⟨b43, 0, none⟩) (some b43) ([(fun _ => 0#8), (upd (fun _ => 0#8) 0 (1#8)), (upd m24 31 (127#8)), (lit [224#8, 235#8, 122#8, 124#8, 59#8, 65#8, 184#8, 174#8, 22#8, 86#8, 227#8, 250#8, 241#8, 159#8, 196#8, 106#8, 218#8, 9#8, 141#8, 235#8, 156#8, 50#8, 177#8, 253#8, 134#8, 98#8, 5#8, 22#8, 95#8, 73#8, 184#8, 0#8]), (lit [95#8, 156#8, 149#8, 188#8, 163#8, 80#8, 140#8, 36#8, 177#8, 208#8, 177#8, 85#8, 156#8, 131#8, 239#8, 91#8, 4#8, 68#8, 92#8, 196#8, 88#8, 28#8, 142#8, 134#8, 216#8, 34#8, 78#8, 221#8, 208#8, 159#8, 17#8, 87#8])] : List (Nat → BitVec 8)).length 5 F43 ([(fun _ => 0#8), (upd (fun _ => 0#8) 0 (1#8)), (upd m24 31 (127#8)), (lit [224#8, 235#8, 122#8, 124#8, 59#8, 65#8, 184#8, 174#8, 22#8, 86#8, 227#8, 250#8, 241#8, 159#8, 196#8, 106#8, 218#8, 9#8, 141#8, 235#8, 156#8, 50#8, 177#8, 253#8, 134#8, 98#8, 5#8, 22#8, 95#8, 73#8, 184#8, 0#8]), (lit [95#8, 156#8, 149#8, 188#8, 163#8, 80#8, 140#8, 36#8, 177#8, 208#8, 177#8, 85#8, 156#8, 131#8, 239#8, 91#8, 4#8, 68#8, 92#8, 196#8, 88#8, 28#8, 142#8, 134#8, 216#8, 34#8, 78#8, 221#8, 208#8, 159#8, 17#8, 87#8])] : List (Nat → BitVec 8)) := ho43.re (fun _ _ h => h)
    refine Plan.assign_slice rfl rfl ?_
    refine Plan.nil ?_
    refine hK41 _ _ ?_; clear hK41
    refine W.ret (finR_ret ?_)
    have h44 := St.pickT (C := [_, _, _, _, _]) h43 [0] (by decide)
    simp only [pick, List.filterMap_cons, List.filterMap_nil, List.getElem?_cons_zero, List.getElem?_cons_succ, List.cons_append, List.nil_append] at h44
    subst r
    refine RetOk.mk (.tmp_slice rfl .nil) ?_
    exact ⟨some ⟨b43, 0, none⟩, some b43, ([(fun _ => 0#8), (upd (fun _ => 0#8) 0 (1#8)), (upd m24 31 (127#8)), (lit [224#8, 235#8, 122#8, 124#8, 59#8, 65#8, 184#8, 174#8, 22#8, 86#8, 227#8, 250#8, 241#8, 159#8, 196#8, 106#8, 218#8, 9#8, 141#8, 235#8, 156#8, 50#8, 177#8, 253#8, 134#8, 98#8, 5#8, 22#8, 95#8, 73#8, 184#8, 0#8]), (lit [95#8, 156#8, 149#8, 188#8, 163#8, 80#8, 140#8, 36#8, 177#8, 208#8, 177#8, 85#8, 156#8, 131#8, 239#8, 91#8, 4#8, 68#8, 92#8, 196#8, 88#8, 28#8, 142#8, 134#8, 216#8, 34#8, 78#8, 221#8, 208#8, 159#8, 17#8, 87#8])] : List (Nat → BitVec 8)).length, 5, F43, rfl, h44, ho43⟩

end Go.Proofs.YtjblfkmmbpcpaaaDoor
