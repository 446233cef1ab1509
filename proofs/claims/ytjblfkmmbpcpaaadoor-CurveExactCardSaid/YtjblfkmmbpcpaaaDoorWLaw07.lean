/-
  WALKS of the package's functions, printed by this session's own program (auto.py).
-/
import Derived.Test.YtjblfkmmbpcpaaaDoorProg
import Derived.Test.YtjblfkmmbpcpaaaDoorEb
import Derived.Test.YtjblfkmmbpcpaaaDoorRLaw07
import Derived.Test.YtjblfkmmbpcpaaaDoorEls
import Derived.Test.YtjblfkmmbpcpaaaDoorWCurve
import Derived.Test.YtjblfkmmbpcpaaaDoorWRef07
namespace Go.Proofs.YtjblfkmmbpcpaaaDoor
set_option linter.unusedSimpArgs false
set_option linter.unusedVariables false
set_option linter.unusedSectionVars false
open Go Go.LW
theorem FLaw07.z23 : zeroIs Tryd.prog 23 [(32, fun _ => VU .u8 0#8)] := zeroIs_agg (by kernel_rfl)
theorem FLaw07.u5 : Tryd.prog.underlying 5 = some (.int .u8) := by kernel_rfl
theorem FLaw07.some3 : (Tryd.prog.underlying 3).isSome = true := by kernel_rfl
theorem FLaw07.arr23 : arrB Tryd.prog 23 32 1 = true := by kernel_rfl
theorem FLaw07.sz5 : szT Tryd.prog 5 1 = true := by kernel_rfl
theorem FLaw07.agg23 : aggT Tryd.prog 23 32 = true := by kernel_rfl
theorem FLaw07.sz23 : szT Tryd.prog 23 32 = true := by kernel_rfl
theorem FLaw07.call49 : callB Tryd.prog 49 = true := by kernel_rfl
theorem FLaw07.mixed : Tryd.prog.follows .mixedOrders = true := by kernel_rfl
theorem FLaw07.sc5 : scalarT Tryd.prog 5 = true := by kernel_rfl
theorem FLaw07.call26 : callB Tryd.prog 26 = true := by kernel_rfl
theorem FLaw07.call24 : callB Tryd.prog 24 = true := by kernel_rfl
theorem FLaw07.call31 : callB Tryd.prog 31 = true := by kernel_rfl
theorem FLaw07.row23 : rowB Tryd.prog 23 = true := by kernel_rfl
theorem FLaw07.arrI23 : arrIB Tryd.prog 23 32 .u8 = true := by kernel_rfl
theorem FLaw07.call28 : callB Tryd.prog 28 = true := by kernel_rfl
theorem FLaw07.fld69_0 : fieldB Tryd.prog 69 0 0 = true := by kernel_rfl
theorem FLaw07.sc3 : scalarT Tryd.prog 3 = true := by kernel_rfl
theorem FLaw07.fld69_1 : fieldB Tryd.prog 69 1 1 = true := by kernel_rfl
theorem FLaw07.call53 : callB Tryd.prog 53 = true := by kernel_rfl
theorem FLaw07.fld69_2 : fieldB Tryd.prog 69 2 33 = true := by kernel_rfl
theorem FLaw07.call54 : callB Tryd.prog 54 = true := by kernel_rfl
theorem FLaw07.call55 : callB Tryd.prog 55 = true := by kernel_rfl
theorem FLaw07.call56 : callB Tryd.prog 56 = true := by kernel_rfl
theorem FLaw07.fld69_3 : fieldB Tryd.prog 69 3 65 = true := by kernel_rfl
theorem FLaw07.sc67 : scalarT Tryd.prog 67 = true := by kernel_rfl
theorem FLaw07.slu67 : Tryd.prog.underlying 67 = some (.slice 5) := by kernel_rfl
theorem FLaw07.str9 : Tryd.prog.underlying 9 = some .string := by kernel_rfl
theorem FLaw07.isl67 : ∃ el, Tryd.prog.underlying 67 = some (.slice el) := ⟨5, by kernel_rfl⟩
theorem FLaw07.sl67 : slB Tryd.prog 67 1 = true := by kernel_rfl
theorem FLaw07.z72 : zeroIs Tryd.prog 72 [(32, fun _ => VU .u8 0#8), (32, fun _ => VU .u8 0#8)] := zeroIs_agg (by kernel_rfl)
theorem FLaw07.sz72 : szT Tryd.prog 72 64 = true := by kernel_rfl
theorem FLaw07.agg72 : aggT Tryd.prog 72 64 = true := by kernel_rfl
theorem FLaw07.call30 : callB Tryd.prog 30 = true := by kernel_rfl
theorem FLaw07.call74 : callB Tryd.prog 74 = true := by kernel_rfl
theorem FLaw07.flds72 : fieldsB Tryd.prog 72 [(23, 0), (23, 32)] = true := by kernel_rfl
theorem FLaw07.eqg72 : Tryd.prog.eqGuardType Tryd.prog.depth 72 = false := by kernel_rfl
theorem FLaw07.call57 : callB Tryd.prog 57 = true := by kernel_rfl

set_option maxRecDepth 8000 in
set_option maxHeartbeats 1000000 in
theorem lethelaw07_counted_ok {B : Nat} {w0 w : World} {L : List Rg} {first1 : Int} {step2 : Int} {r : (Nat → BitVec 8)} (hR : lethelaw07_counted first1 step2 r) (HST : St B w0 (L) w) :
    Calls Tryd.prog 49 #[.int .i64 first1, .int .i64 step2] w fun e w' => e = .returned (AG [(32, fun q => VU .u8 (r q))]) ∧ St B w0 (L) w' := by
  refine W.enter 20 Tryd.func49 rfl rfl rfl ?_
  unfold lethelaw07_counted at hR
  refine W.seq_k fun K3 hK3 => ?_
  refine W.regionT [(0, false)] (by kernel_rfl) ?_
  refine Plan.alloc HST rfl FLaw07.z23 PIn.nil fun b4 w4 hb4 h4 => ?_
  simp only [rngs, Nat.zero_add, Nat.reduceAdd, List.cons_append, List.nil_append] at h4
  refine Plan.nil ?_
  refine hK3 _ _ ?_; clear hK3
  refine W.seq_k fun K5 hK5 => ?_
  refine W.regionT [(0, false)] (by kernel_rfl) ?_
  refine Plan.alloc h4 rfl FLaw07.z23 PIn.nil fun b6 w6 hb6 h6 => ?_
  simp only [rngs, Nat.zero_add, Nat.reduceAdd, List.cons_append, List.nil_append] at h6
  refine Plan.nil ?_
  refine hK5 _ _ ?_; clear hK5
  refine W.seq_k fun K7 hK7 => ?_
  refine W.seq_k fun K8 hK8 => ?_
  refine W.regionT [(0, true)] (by kernel_rfl) ?_
  refine Plan.assign_int rfl rfl ?_
  refine Plan.nil ?_
  refine hK8 _ _ ?_; clear hK8
  obtain ⟨m27, hI28, hR028⟩ := hR
  refine W.cutN (fun e w => ∃ y_m27 : Nat → BitVec 8, m27 = y_m27 ∧ EnvHas e [(4, .pointer (some ⟨b4, 0, none⟩)), (5, .pointer (some ⟨b6, 0, none⟩))] ∧ St B w0 (⟨some b6, 0, 32, fun q => VU .u8 (y_m27 q), true⟩ :: ⟨some b4, 0, 32, fun q => VU .u8 ((fun _ => 0#8) q), true⟩ :: L) w) ?_ ?_
  ·
    refine W.block ?_
    refine W.iter hI28 (fun (s28 : (Nat × (Nat → BitVec 8))) e w => EnvHas e [(0, .int .i64 first1), (1, .int .i64 step2), (4, .pointer (some ⟨b4, 0, none⟩)), (5, .pointer (some ⟨b6, 0, none⟩)), (6, VN s28.1)] ∧ St B w0 (⟨some b6, 0, 32, fun q => VU .u8 (s28.2 q), true⟩ :: ⟨some b4, 0, 32, fun q => VU .u8 ((fun _ => 0#8) q), true⟩ :: L) w) ⟨(EnvHas.cons rfl (EnvHas.cons rfl (EnvHas.cons rfl (EnvHas.cons rfl (EnvHas.cons rfl EnvHas.nil))))), h6⟩ ?_
    rintro ⟨i_25, m26⟩ o28 hR hx28 ev29 wl29 ⟨he29, h29⟩
    obtain ⟨ev29, rfl⟩ := he29.open
    unfold lethelaw07_counted_l0 at hR
    refine W.seq_k fun K30 hK30 => ?_
    refine W.seq_k fun K31 hK31 => ?_
    refine W.regionT [(0, true), (1, true)] (by kernel_rfl) ?_
    refine Plan.move_int rfl rfl ?_
    refine Plan.cmpP (a := (((i_25 : Nat) : Int) : Int)) (b := (32 : Int)) (p := i_25 < 32) rfl rfl rfl rfl icmp_ltN ?_
    refine Plan.nil ?_
    refine hK31 _ _ ?_; clear hK31
    by_cases hc32 : i_25 < 32
    ·
      replace hR := ifT hR hc32
      refine W.condT (congrArg Value.bool (decide_eq_true hc32)) ?_
      refine W.skip ?_
      refine hK30 _ _ ?_; clear hK30
      refine W.seq_k fun K33 hK33 => ?_
      refine W.block ?_
      refine W.regionT [(0, true), (1, true), (2, true), (3, true), (4, true), (5, true), (6, true), (7, true), (8, false)] (by kernel_rfl) ?_
      refine Plan.move_int rfl rfl ?_
      refine Plan.move_int rfl rfl ?_
      refine Plan.move_int rfl rfl ?_
      refine Plan.move_int rfl rfl ?_
      obtain ⟨hc34, hR⟩ := hR
      refine Plan.mulI (a := step2) (b := ((i_25 : Nat) : Int)) rfl rfl rfl (by omega) ?_
      obtain ⟨hc35, hR⟩ := hR
      refine Plan.addI (a := first1) (b := (step2 * ((i_25 : Nat) : Int))) rfl rfl rfl (by omega) ?_
      refine Plan.convIU .u8 (a := (first1 + (step2 * ((i_25 : Nat) : Int)))) FLaw07.u5 FLaw07.some3 rfl rfl ?_
      refine Plan.idxArr1 (j := i_25) FLaw07.arr23 rfl rfl rfl (by omega) ?_
      refine Plan.storeU (j := i_25) (X := (BitVec.ofInt 8 (first1 + (step2 * ((i_25 : Nat) : Int))))) h29 0 rfl rfl rfl rfl (by omega) FLaw07.sz5 rfl fun w36 h36 => ?_
      simp only [List.cons_append, List.nil_append, List.set_cons_zero, List.set_cons_succ] at h36
      refine Plan.nil ?_
      refine blockR_norm ?_
      refine hK33 _ _ ?_; clear hK33
      refine W.regionT [(0, true), (1, true), (2, true)] (by kernel_rfl) ?_
      refine Plan.move_int rfl rfl ?_
      refine Plan.addN (a := i_25) (b := 1) rfl rfl rfl (by omega) ?_
      refine Plan.assign_int rfl rfl ?_
      refine Plan.nil ?_
      exact iterR_norm ⟨_, hR, (EnvHas.cons rfl (EnvHas.cons rfl (EnvHas.cons rfl (EnvHas.cons rfl (EnvHas.cons rfl EnvHas.nil))))), h36⟩
    ·
      replace hR := ifF hR hc32
      refine W.condF (congrArg Value.bool (decide_eq_false hc32)) ?_
      refine W.exit (thenR_exit (iterR_exit (blockR_here ?_)))
      exact ⟨m26, (hx28 _ hR).symm, (EnvHas.cons rfl (EnvHas.cons rfl EnvHas.nil)), h29⟩
  ·
    rintro ev37 wl37 ⟨y_m27, hy37, he37, h37⟩
    obtain ⟨ev37, rfl⟩ := he37.open
    subst hy37
    replace hR := hR028
    refine hK7 _ _ ?_; clear hK7
    refine W.seq_k fun K38 hK38 => ?_
    refine W.regionT [(0, true), (1, false)] (by kernel_rfl) ?_
    refine Plan.loadA1 h37 0 rfl rfl rfl FLaw07.agg23 ?_
    refine Plan.storeA (f' := fun q => VU .u8 (m27 q)) h37 1 rfl rfl rfl rfl (fun _ _ => rfl) FLaw07.sz23 rfl fun w39 h39 => ?_
    simp only [List.cons_append, List.nil_append, List.set_cons_zero, List.set_cons_succ] at h39
    refine Plan.nil ?_
    refine hK38 _ _ ?_; clear hK38
    refine W.ret (finR_ret ?_)
    have h40 := St.pickT (C := [_, _]) h39 [] (by decide)
    simp only [pick, List.filterMap_cons, List.filterMap_nil, List.getElem?_cons_zero, List.getElem?_cons_succ, List.cons_append, List.nil_append] at h40
    subst r
    refine RetOk.mk (.agg h39 rfl (.cons 1 rfl .nil) FLaw07.agg23 .nil) ?_
    exact ⟨rfl, h40⟩


set_option maxRecDepth 8000 in
set_option maxHeartbeats 1000000 in
theorem lethelaw07_fixed_ok {B : Nat} {w0 w : World} {L : List Rg} {iG0 : Nat} (hG0 : L[iG0]? = some ⟨some 0, 0, 5, fun q => VU .u64 (twice5 q), false⟩)  {r : Bool} (hR : lethelaw07_fixed r) (HST : St B w0 (L) w) :
    Calls Tryd.prog 23 #[] w fun e w' => e = .returned (.bool r) ∧ St B w0 (L) w' := by
  refine W.enter 80 Tryd.func23 rfl rfl rfl ?_
  unfold lethelaw07_fixed at hR
  refine W.seq_k fun K1 hK1 => ?_
  refine W.regionT [(0, true)] (by kernel_rfl) ?_
  refine Plan.assign_bool rfl rfl ?_
  refine Plan.nil ?_
  refine hK1 _ _ ?_; clear hK1
  refine W.seq_k fun K2 hK2 => ?_
  refine W.regionT [(0, false), (1, false), (2, false), (3, false), (4, false), (5, false)] (by kernel_rfl) ?_
  obtain ⟨x_4, hr3, hR⟩ := hR
  refine Plan.call (vs := [VN 0, VN 1]) rfl FLaw07.call49 rfl (lethelaw07_counted_ok  hr3 HST) ?_
  rintro _ w5 ⟨rfl, h5⟩
  refine ⟨_, rfl, .inl ⟨PIn.keep PIn.nil h5, ?_⟩⟩
  obtain ⟨x_7, hr6, hR⟩ := hR
  refine Plan.call (vs := [VN 255, .int .i64 (-1)]) rfl FLaw07.call49 rfl (lethelaw07_counted_ok  hr6 h5) ?_
  rintro _ w8 ⟨rfl, h8⟩
  refine ⟨_, rfl, .inl ⟨PIn.keep PIn.nil h8, ?_⟩⟩
  refine Plan.alloc h8 rfl FLaw07.z23 PIn.nil fun b9 w9 hb9 h9 => ?_
  simp only [rngs, Nat.zero_add, Nat.reduceAdd, List.cons_append, List.nil_append] at h9
  refine Plan.alloc h9 rfl FLaw07.z23 PIn.nil fun b10 w10 hb10 h10 => ?_
  simp only [rngs, Nat.zero_add, Nat.reduceAdd, List.cons_append, List.nil_append] at h10
  refine Plan.storeA (f' := fun q => VU .u8 (x_4 q)) h10 1 rfl rfl rfl rfl (fun _ _ => rfl) FLaw07.sz23 rfl fun w11 h11 => ?_
  simp only [List.cons_append, List.nil_append, List.set_cons_zero, List.set_cons_succ] at h11
  refine Plan.storeA (f' := fun q => VU .u8 (x_7 q)) h11 0 rfl rfl rfl rfl (fun _ _ => rfl) FLaw07.sz23 rfl fun w12 h12 => ?_
  simp only [List.cons_append, List.nil_append, List.set_cons_zero, List.set_cons_succ] at h12
  refine Plan.nil ?_
  refine hK2 _ _ ?_; clear hK2
  refine W.seq_k fun K13 hK13 => ?_
  refine W.regionX (B := B) (w0 := w0) (L := L) FLaw07.mixed [⟨4, 3, 23, [(32, fun q => VU .u8 ((fun _ => 0#8) q))]⟩, ⟨5, 4, 23, [(32, fun q => VU .u8 ((fun _ => 0#8) q))]⟩] [(0, true), (2, true)] [[(1, false)], [(3, false)]] [(6, false), (7, false)] (by kernel_rfl) (by kernel_rfl) (.cons FLaw07.z23 (.cons FLaw07.z23 .nil)) ?_
  have h14 := h12.drew
  refine Plan.loadA1 h14 1 rfl rfl rfl FLaw07.agg23 ?_
  refine Plan.loadA1 h14 0 rfl rfl rfl FLaw07.agg23 ?_
  refine Plan.nil ⟨[_, _], h14, (PIn.cons 0 rfl (PIn.cons 1 rfl PIn.nil)), ?_⟩
  refine PX.step fun C15 z15 w15 h15 => ?_
  simp only [List.cons_append, List.nil_append] at h15
  obtain ⟨x_17, hr16, hR⟩ := hR
  refine Plan.call (vs := [AG [(32, fun q => VU .u8 (x_4 q))]]) rfl FLaw07.call31 rfl (curve_Public_ok (iG0 := (iG0 + C15.length) + 2) (flget hG0 C15) hr16 h15) ?_
  rintro _ w18 ⟨rfl, h18⟩
  refine ⟨_, rfl, .inl ⟨PIn.keep (PIn.cons 0 rfl (PIn.cons 1 rfl PIn.nil)) h18, ?_⟩⟩
  refine Plan.nil ⟨[_, _], h18, (PIn.cons 0 rfl (PIn.cons 1 rfl PIn.nil)), ?_⟩
  refine PX.step fun C19 z19 w19 h19 => ?_
  simp only [List.cons_append, List.nil_append] at h19
  obtain ⟨x_21, hr20, hR⟩ := hR
  refine Plan.call (vs := [AG [(32, fun q => VU .u8 (x_7 q))]]) rfl FLaw07.call31 rfl (curve_Public_ok (iG0 := (iG0 + C19.length) + 2) (flget hG0 C19) hr20 h19) ?_
  rintro _ w22 ⟨rfl, h22⟩
  refine ⟨_, rfl, .inl ⟨PIn.keep (PIn.cons 0 rfl (PIn.cons 1 rfl PIn.nil)) h22, ?_⟩⟩
  refine Plan.nil ⟨[_, _], h22, (PIn.cons 0 rfl (PIn.cons 1 rfl PIn.nil)), ?_⟩
  refine PX.done (KE.step fun b23_4 => (KE.step fun b23_5 => (KE.fin fun w23 h23 => ?_)))
  simp only [rngs, Nat.zero_add, Nat.reduceAdd, List.cons_append, List.nil_append] at h23
  refine Plan.storeP (ps := [(32, fun q => VU .u8 (x_17 q))]) h23 rfl rfl rfl (.cons 2 rfl .nil) ⟨fun _ _ => rfl, trivial⟩ FLaw07.sz23 (EffO.mix _ (Filt.keep rfl (Filt.drop rfl Filt.nil)) (PIn.cons 0 rfl PIn.nil)) fun w24 h24 => ?_
  simp only [List.cons_append, List.nil_append, List.set_cons_zero, List.set_cons_succ] at h24
  refine Plan.storeA (f' := fun q => VU .u8 (x_21 q)) h24 3 rfl rfl rfl rfl (fun _ _ => rfl) FLaw07.sz23 rfl fun w25 h25 => ?_
  simp only [List.cons_append, List.nil_append, List.set_cons_zero, List.set_cons_succ] at h25
  refine Plan.nil ?_
  refine hK13 _ _ ?_; clear hK13
  refine W.seq_k fun K26 hK26 => ?_
  refine W.regionT [(0, true), (1, true), (2, false), (3, true), (4, true), (5, true), (6, false), (7, false), (8, true)] (by kernel_rfl) ?_
  refine Plan.loadA1 h25 1 rfl rfl rfl FLaw07.agg23 ?_
  refine Plan.loadA1 h25 3 rfl rfl rfl FLaw07.agg23 ?_
  obtain ⟨x_28, x_29, hr27, hR⟩ := hR
  refine Plan.call (vs := [AG [(32, fun q => VU .u8 (x_4 q))], AG [(32, fun q => VU .u8 (x_21 q))]]) rfl FLaw07.call28 rfl (curve_Shared_ok (iG0 := iG0 + 4) hG0 hr27 h25) ?_
  rintro _ w30 ⟨rfl, h30⟩
  refine ⟨_, rfl, .inr ⟨rfl, ?_⟩⟩
  refine Plan.move_tuple rfl rfl ?_
  refine Plan.extract_agg rfl rfl rfl ?_
  refine Plan.extract_int rfl rfl rfl ?_
  refine Plan.alloc h30 rfl FLaw07.z23 PIn.nil fun b31 w31 hb31 h31 => ?_
  simp only [rngs, Nat.zero_add, Nat.reduceAdd, List.cons_append, List.nil_append] at h31
  refine Plan.storeA (f' := fun q => VU .u8 (x_28 q)) h31 0 rfl rfl rfl rfl (fun _ _ => rfl) FLaw07.sz23 rfl fun w32 h32 => ?_
  simp only [List.cons_append, List.nil_append, List.set_cons_zero, List.set_cons_succ] at h32
  refine Plan.assign_int rfl rfl ?_
  refine Plan.nil ?_
  refine hK26 _ _ ?_; clear hK26
  refine W.seq_k fun K33 hK33 => ?_
  refine W.regionT [(0, true), (1, true), (2, false), (3, true), (4, true), (5, true), (6, false), (7, false), (8, true)] (by kernel_rfl) ?_
  refine Plan.loadA1 h32 1 rfl rfl rfl FLaw07.agg23 ?_
  refine Plan.loadA1 h32 3 rfl rfl rfl FLaw07.agg23 ?_
  obtain ⟨x_35, x_36, hr34, hR⟩ := hR
  refine Plan.call (vs := [AG [(32, fun q => VU .u8 (x_7 q))], AG [(32, fun q => VU .u8 (x_17 q))]]) rfl FLaw07.call28 rfl (curve_Shared_ok (iG0 := iG0 + 5) hG0 hr34 h32) ?_
  rintro _ w37 ⟨rfl, h37⟩
  refine ⟨_, rfl, .inr ⟨rfl, ?_⟩⟩
  refine Plan.move_tuple rfl rfl ?_
  refine Plan.extract_agg rfl rfl rfl ?_
  refine Plan.extract_int rfl rfl rfl ?_
  refine Plan.alloc h37 rfl FLaw07.z23 PIn.nil fun b38 w38 hb38 h38 => ?_
  simp only [rngs, Nat.zero_add, Nat.reduceAdd, List.cons_append, List.nil_append] at h38
  refine Plan.storeA (f' := fun q => VU .u8 (x_35 q)) h38 0 rfl rfl rfl rfl (fun _ _ => rfl) FLaw07.sz23 rfl fun w39 h39 => ?_
  simp only [List.cons_append, List.nil_append, List.set_cons_zero, List.set_cons_succ] at h39
  refine Plan.assign_int rfl rfl ?_
  refine Plan.nil ?_
  refine hK33 _ _ ?_; clear hK33
  refine W.seq_k fun K40 hK40 => ?_
  refine W.regionT [(0, true), (1, true), (2, false), (3, true), (4, true), (5, true), (6, false), (7, false), (8, true)] (by kernel_rfl) ?_
  refine Plan.loadA1 h39 3 rfl rfl rfl FLaw07.agg23 ?_
  refine Plan.buildZ FLaw07.row23 FLaw07.z23 rfl ?_
  obtain ⟨x_42, x_43, hr41, hR⟩ := hR
  refine Plan.call (vs := [AG [(32, fun q => VU .u8 (x_4 q))], AG [(32, fun q => VU .u8 ((fun _ => 0#8) q))]]) rfl FLaw07.call28 rfl (curve_Shared_ok (iG0 := iG0 + 6) hG0 hr41 h39) ?_
  rintro _ w44 ⟨rfl, h44⟩
  refine ⟨_, rfl, .inr ⟨rfl, ?_⟩⟩
  refine Plan.move_tuple rfl rfl ?_
  refine Plan.extract_agg rfl rfl rfl ?_
  refine Plan.extract_int rfl rfl rfl ?_
  refine Plan.alloc h44 rfl FLaw07.z23 PIn.nil fun b45 w45 hb45 h45 => ?_
  simp only [rngs, Nat.zero_add, Nat.reduceAdd, List.cons_append, List.nil_append] at h45
  refine Plan.storeA (f' := fun q => VU .u8 (x_42 q)) h45 0 rfl rfl rfl rfl (fun _ _ => rfl) FLaw07.sz23 rfl fun w46 h46 => ?_
  simp only [List.cons_append, List.nil_append, List.set_cons_zero, List.set_cons_succ] at h46
  refine Plan.assign_int rfl rfl ?_
  refine Plan.nil ?_
  refine hK40 _ _ ?_; clear hK40
  refine W.seq_k fun K47 hK47 => ?_
  refine W.regionT [(0, true), (1, true), (2, true), (3, true), (4, true), (5, true), (6, true), (7, true), (8, true), (9, true), (10, true), (11, true), (12, true), (13, true), (14, true), (15, true), (16, true), (17, true), (18, true), (19, true), (20, true), (21, true), (22, true), (23, true), (24, true), (25, true), (26, true), (27, true), (28, true), (29, true), (30, true), (31, true), (32, true), (33, true), (34, true), (35, true), (36, true), (37, true), (38, true), (39, true), (40, true), (41, true), (42, true), (43, true), (44, true), (45, true)] (by kernel_rfl) ?_
  refine Plan.move_int rfl rfl ?_
  by_cases hc48 : x_29 = 0
  ·
    replace hR := ifT hR hc48
    refine Plan.cmpV (a := (((x_29 : Nat) : Int) : Int)) (b := (0 : Int)) (p := x_29 = 0) (v := true) rfl rfl rfl rfl icmp_eqN (decide_eq_true hc48) ?_
    refine Plan.move_bool rfl rfl ?_
    refine Plan.move_int rfl rfl ?_
    by_cases hc49 : x_36 = 0
    ·
      replace hR := ifT hR hc49
      refine Plan.cmpV (a := (((x_36 : Nat) : Int) : Int)) (b := (0 : Int)) (p := x_36 = 0) (v := true) rfl rfl rfl rfl icmp_eqN (decide_eq_true hc49) ?_
      refine Plan.pickTb rfl rfl rfl ?_
      refine Plan.move_bool rfl rfl ?_
      refine Plan.move_int rfl rfl ?_
      by_cases hc50 : x_43 = 70
      ·
        replace hR := ifT hR hc50
        refine Plan.cmpV (a := (((x_43 : Nat) : Int) : Int)) (b := (70 : Int)) (p := x_43 = 70) (v := true) rfl rfl rfl rfl icmp_eqN (decide_eq_true hc50) ?_
        refine Plan.pickTb rfl rfl rfl ?_
        refine Plan.move_bool rfl rfl ?_
        refine Plan.loadA1 h46 2 rfl rfl rfl FLaw07.agg23 ?_
        refine Plan.loadA1 h46 1 rfl rfl rfl FLaw07.agg23 ?_
        by_cases hc51 : (eqB 32 x_28 x_35) = true
        ·
          replace hR := ifT hR hc51
          refine Plan.eqArrV (b := true) FLaw07.arrI23 rfl rfl rfl hc51 ?_
          refine Plan.pickTb rfl rfl rfl ?_
          refine Plan.move_bool rfl rfl ?_
          refine Plan.idxArr1 (j := 0) FLaw07.arr23 rfl rfl rfl (by omega) ?_
          refine Plan.load1 (j := 0) h46 5 rfl rfl rfl (by omega) FLaw07.sc5 ?_
          by_cases hc52 : (x_17 0) = 143#8
          ·
            replace hR := ifT hR hc52
            refine Plan.cmpV (a := ((x_17 0).toNat : Int)) (b := ((143#8).toNat : Int)) (p := (x_17 0) = 143#8) (v := true) rfl rfl rfl rfl icmp_eqU (decide_eq_true hc52) ?_
            refine Plan.pickTb rfl rfl rfl ?_
            refine Plan.move_bool rfl rfl ?_
            refine Plan.idxArr1 (j := 31) FLaw07.arr23 rfl rfl rfl (by omega) ?_
            refine Plan.load1 (j := 31) h46 5 rfl rfl rfl (by omega) FLaw07.sc5 ?_
            by_cases hc53 : (x_17 31) = 95#8
            ·
              replace hR := ifT hR hc53
              refine Plan.cmpV (a := ((x_17 31).toNat : Int)) (b := ((95#8).toNat : Int)) (p := (x_17 31) = 95#8) (v := true) rfl rfl rfl rfl icmp_eqU (decide_eq_true hc53) ?_
              refine Plan.pickTb rfl rfl rfl ?_
              refine Plan.move_bool rfl rfl ?_
              refine Plan.idxArr1 (j := 0) FLaw07.arr23 rfl rfl rfl (by omega) ?_
              refine Plan.load1 (j := 0) h46 6 rfl rfl rfl (by omega) FLaw07.sc5 ?_
              by_cases hc54 : (x_21 0) = 62#8
              ·
                replace hR := ifT hR hc54
                refine Plan.cmpV (a := ((x_21 0).toNat : Int)) (b := ((62#8).toNat : Int)) (p := (x_21 0) = 62#8) (v := true) rfl rfl rfl rfl icmp_eqU (decide_eq_true hc54) ?_
                refine Plan.pickTb rfl rfl rfl ?_
                refine Plan.move_bool rfl rfl ?_
                refine Plan.idxArr1 (j := 31) FLaw07.arr23 rfl rfl rfl (by omega) ?_
                refine Plan.load1 (j := 31) h46 6 rfl rfl rfl (by omega) FLaw07.sc5 ?_
                by_cases hc55 : (x_21 31) = 21#8
                ·
                  replace hR := ifT hR hc55
                  refine Plan.cmpV (a := ((x_21 31).toNat : Int)) (b := ((21#8).toNat : Int)) (p := (x_21 31) = 21#8) (v := true) rfl rfl rfl rfl icmp_eqU (decide_eq_true hc55) ?_
                  refine Plan.pickTb rfl rfl rfl ?_
                  refine Plan.move_bool rfl rfl ?_
                  refine Plan.idxArr1 (j := 0) FLaw07.arr23 rfl rfl rfl (by omega) ?_
                  refine Plan.load1 (j := 0) h46 2 rfl rfl rfl (by omega) FLaw07.sc5 ?_
                  by_cases hc56 : (x_28 0) = 48#8
                  ·
                    replace hR := ifT hR hc56
                    refine Plan.cmpV (a := ((x_28 0).toNat : Int)) (b := ((48#8).toNat : Int)) (p := (x_28 0) = 48#8) (v := true) rfl rfl rfl rfl icmp_eqU (decide_eq_true hc56) ?_
                    refine Plan.pickTb rfl rfl rfl ?_
                    refine Plan.move_bool rfl rfl ?_
                    refine Plan.idxArr1 (j := 31) FLaw07.arr23 rfl rfl rfl (by omega) ?_
                    refine Plan.load1 (j := 31) h46 2 rfl rfl rfl (by omega) FLaw07.sc5 ?_
                    refine Plan.cmpP (a := ((x_28 31).toNat : Int)) (b := ((61#8).toNat : Int)) (p := (x_28 31) = 61#8) rfl rfl rfl rfl icmp_eqU ?_
                    refine Plan.pickTb rfl rfl rfl ?_
                    refine Plan.assign_bool rfl rfl ?_
                    refine Plan.nil ?_
                    refine hK47 _ _ ?_; clear hK47
                    refine W.ret (finR_ret ?_)
                    have h57 := St.pickT (C := [_, _, _, _, _, _, _]) h46 [] (by decide)
                    simp only [pick, List.filterMap_cons, List.filterMap_nil, List.getElem?_cons_zero, List.getElem?_cons_succ, List.cons_append, List.nil_append] at h57
                    subst r
                    refine RetOk.mk (.tmp_bool rfl .nil) ?_
                    exact ⟨rfl, h57⟩
                  ·
                    replace hR := ifF hR hc56
                    refine Plan.cmpV (a := ((x_28 0).toNat : Int)) (b := ((48#8).toNat : Int)) (p := (x_28 0) = 48#8) (v := false) rfl rfl rfl rfl icmp_eqU (decide_eq_false hc56) ?_
                    refine Plan.pickTb rfl rfl rfl ?_
                    refine Plan.move_bool rfl rfl ?_
                    refine Plan.passed rfl ?_
                    refine Plan.passed rfl ?_
                    refine Plan.passed rfl ?_
                    refine Plan.pickFb rfl rfl rfl ?_
                    refine Plan.assign_bool rfl rfl ?_
                    refine Plan.nil ?_
                    refine hK47 _ _ ?_; clear hK47
                    refine W.ret (finR_ret ?_)
                    have h58 := St.pickT (C := [_, _, _, _, _, _, _]) h46 [] (by decide)
                    simp only [pick, List.filterMap_cons, List.filterMap_nil, List.getElem?_cons_zero, List.getElem?_cons_succ, List.cons_append, List.nil_append] at h58
                    subst r
                    refine RetOk.mk (.tmp_bool rfl .nil) ?_
                    exact ⟨rfl, h58⟩
                ·
                  replace hR := ifF hR hc55
                  refine Plan.cmpV (a := ((x_21 31).toNat : Int)) (b := ((21#8).toNat : Int)) (p := (x_21 31) = 21#8) (v := false) rfl rfl rfl rfl icmp_eqU (decide_eq_false hc55) ?_
                  refine Plan.pickTb rfl rfl rfl ?_
                  refine Plan.move_bool rfl rfl ?_
                  refine Plan.passed rfl ?_
                  refine Plan.passed rfl ?_
                  refine Plan.passed rfl ?_
                  refine Plan.pickFb rfl rfl rfl ?_
                  refine Plan.move_bool rfl rfl ?_
                  refine Plan.passed rfl ?_
                  refine Plan.passed rfl ?_
                  refine Plan.passed rfl ?_
                  refine Plan.pickFb rfl rfl rfl ?_
                  refine Plan.assign_bool rfl rfl ?_
                  refine Plan.nil ?_
                  refine hK47 _ _ ?_; clear hK47
                  refine W.ret (finR_ret ?_)
                  have h59 := St.pickT (C := [_, _, _, _, _, _, _]) h46 [] (by decide)
                  simp only [pick, List.filterMap_cons, List.filterMap_nil, List.getElem?_cons_zero, List.getElem?_cons_succ, List.cons_append, List.nil_append] at h59
                  subst r
                  refine RetOk.mk (.tmp_bool rfl .nil) ?_
                  exact ⟨rfl, h59⟩
              ·
                replace hR := ifF hR hc54
                refine Plan.cmpV (a := ((x_21 0).toNat : Int)) (b := ((62#8).toNat : Int)) (p := (x_21 0) = 62#8) (v := false) rfl rfl rfl rfl icmp_eqU (decide_eq_false hc54) ?_
                refine Plan.pickTb rfl rfl rfl ?_
                refine Plan.move_bool rfl rfl ?_
                refine Plan.passed rfl ?_
                refine Plan.passed rfl ?_
                refine Plan.passed rfl ?_
                refine Plan.pickFb rfl rfl rfl ?_
                refine Plan.move_bool rfl rfl ?_
                refine Plan.passed rfl ?_
                refine Plan.passed rfl ?_
                refine Plan.passed rfl ?_
                refine Plan.pickFb rfl rfl rfl ?_
                refine Plan.move_bool rfl rfl ?_
                refine Plan.passed rfl ?_
                refine Plan.passed rfl ?_
                refine Plan.passed rfl ?_
                refine Plan.pickFb rfl rfl rfl ?_
                refine Plan.assign_bool rfl rfl ?_
                refine Plan.nil ?_
                refine hK47 _ _ ?_; clear hK47
                refine W.ret (finR_ret ?_)
                have h60 := St.pickT (C := [_, _, _, _, _, _, _]) h46 [] (by decide)
                simp only [pick, List.filterMap_cons, List.filterMap_nil, List.getElem?_cons_zero, List.getElem?_cons_succ, List.cons_append, List.nil_append] at h60
                subst r
                refine RetOk.mk (.tmp_bool rfl .nil) ?_
                exact ⟨rfl, h60⟩
            ·
              replace hR := ifF hR hc53
              refine Plan.cmpV (a := ((x_17 31).toNat : Int)) (b := ((95#8).toNat : Int)) (p := (x_17 31) = 95#8) (v := false) rfl rfl rfl rfl icmp_eqU (decide_eq_false hc53) ?_
              refine Plan.pickTb rfl rfl rfl ?_
              refine Plan.move_bool rfl rfl ?_
              refine Plan.passed rfl ?_
              refine Plan.passed rfl ?_
              refine Plan.passed rfl ?_
              refine Plan.pickFb rfl rfl rfl ?_
              refine Plan.move_bool rfl rfl ?_
              refine Plan.passed rfl ?_
              refine Plan.passed rfl ?_
              refine Plan.passed rfl ?_
              refine Plan.pickFb rfl rfl rfl ?_
              refine Plan.move_bool rfl rfl ?_
              refine Plan.passed rfl ?_
              refine Plan.passed rfl ?_
              refine Plan.passed rfl ?_
              refine Plan.pickFb rfl rfl rfl ?_
              refine Plan.move_bool rfl rfl ?_
              refine Plan.passed rfl ?_
              refine Plan.passed rfl ?_
              refine Plan.passed rfl ?_
              refine Plan.pickFb rfl rfl rfl ?_
              refine Plan.assign_bool rfl rfl ?_
              refine Plan.nil ?_
              refine hK47 _ _ ?_; clear hK47
              refine W.ret (finR_ret ?_)
              have h61 := St.pickT (C := [_, _, _, _, _, _, _]) h46 [] (by decide)
              simp only [pick, List.filterMap_cons, List.filterMap_nil, List.getElem?_cons_zero, List.getElem?_cons_succ, List.cons_append, List.nil_append] at h61
              subst r
              refine RetOk.mk (.tmp_bool rfl .nil) ?_
              exact ⟨rfl, h61⟩
          ·
            replace hR := ifF hR hc52
            refine Plan.cmpV (a := ((x_17 0).toNat : Int)) (b := ((143#8).toNat : Int)) (p := (x_17 0) = 143#8) (v := false) rfl rfl rfl rfl icmp_eqU (decide_eq_false hc52) ?_
            refine Plan.pickTb rfl rfl rfl ?_
            refine Plan.move_bool rfl rfl ?_
            refine Plan.passed rfl ?_
            refine Plan.passed rfl ?_
            refine Plan.passed rfl ?_
            refine Plan.pickFb rfl rfl rfl ?_
            refine Plan.move_bool rfl rfl ?_
            refine Plan.passed rfl ?_
            refine Plan.passed rfl ?_
            refine Plan.passed rfl ?_
            refine Plan.pickFb rfl rfl rfl ?_
            refine Plan.move_bool rfl rfl ?_
            refine Plan.passed rfl ?_
            refine Plan.passed rfl ?_
            refine Plan.passed rfl ?_
            refine Plan.pickFb rfl rfl rfl ?_
            refine Plan.move_bool rfl rfl ?_
            refine Plan.passed rfl ?_
            refine Plan.passed rfl ?_
            refine Plan.passed rfl ?_
            refine Plan.pickFb rfl rfl rfl ?_
            refine Plan.move_bool rfl rfl ?_
            refine Plan.passed rfl ?_
            refine Plan.passed rfl ?_
            refine Plan.passed rfl ?_
            refine Plan.pickFb rfl rfl rfl ?_
            refine Plan.assign_bool rfl rfl ?_
            refine Plan.nil ?_
            refine hK47 _ _ ?_; clear hK47
            refine W.ret (finR_ret ?_)
            have h62 := St.pickT (C := [_, _, _, _, _, _, _]) h46 [] (by decide)
            simp only [pick, List.filterMap_cons, List.filterMap_nil, List.getElem?_cons_zero, List.getElem?_cons_succ, List.cons_append, List.nil_append] at h62
            subst r
            refine RetOk.mk (.tmp_bool rfl .nil) ?_
            exact ⟨rfl, h62⟩
        ·
          replace hR := ifF hR hc51
          refine Plan.eqArrV (b := false) FLaw07.arrI23 rfl rfl rfl (Bool.eq_false_iff.2 hc51) ?_
          refine Plan.pickTb rfl rfl rfl ?_
          refine Plan.move_bool rfl rfl ?_
          refine Plan.passed rfl ?_
          refine Plan.passed rfl ?_
          refine Plan.passed rfl ?_
          refine Plan.pickFb rfl rfl rfl ?_
          refine Plan.move_bool rfl rfl ?_
          refine Plan.passed rfl ?_
          refine Plan.passed rfl ?_
          refine Plan.passed rfl ?_
          refine Plan.pickFb rfl rfl rfl ?_
          refine Plan.move_bool rfl rfl ?_
          refine Plan.passed rfl ?_
          refine Plan.passed rfl ?_
          refine Plan.passed rfl ?_
          refine Plan.pickFb rfl rfl rfl ?_
          refine Plan.move_bool rfl rfl ?_
          refine Plan.passed rfl ?_
          refine Plan.passed rfl ?_
          refine Plan.passed rfl ?_
          refine Plan.pickFb rfl rfl rfl ?_
          refine Plan.move_bool rfl rfl ?_
          refine Plan.passed rfl ?_
          refine Plan.passed rfl ?_
          refine Plan.passed rfl ?_
          refine Plan.pickFb rfl rfl rfl ?_
          refine Plan.move_bool rfl rfl ?_
          refine Plan.passed rfl ?_
          refine Plan.passed rfl ?_
          refine Plan.passed rfl ?_
          refine Plan.pickFb rfl rfl rfl ?_
          refine Plan.assign_bool rfl rfl ?_
          refine Plan.nil ?_
          refine hK47 _ _ ?_; clear hK47
          refine W.ret (finR_ret ?_)
          have h63 := St.pickT (C := [_, _, _, _, _, _, _]) h46 [] (by decide)
          simp only [pick, List.filterMap_cons, List.filterMap_nil, List.getElem?_cons_zero, List.getElem?_cons_succ, List.cons_append, List.nil_append] at h63
          subst r
          refine RetOk.mk (.tmp_bool rfl .nil) ?_
          exact ⟨rfl, h63⟩
      ·
        replace hR := ifF hR hc50
        refine Plan.cmpV (a := (((x_43 : Nat) : Int) : Int)) (b := (70 : Int)) (p := x_43 = 70) (v := false) rfl rfl rfl rfl icmp_eqN (decide_eq_false hc50) ?_
        refine Plan.pickTb rfl rfl rfl ?_
        refine Plan.move_bool rfl rfl ?_
        refine Plan.passed rfl ?_
        refine Plan.passed rfl ?_
        refine Plan.passed rfl ?_
        refine Plan.pickFb rfl rfl rfl ?_
        refine Plan.move_bool rfl rfl ?_
        refine Plan.passed rfl ?_
        refine Plan.passed rfl ?_
        refine Plan.passed rfl ?_
        refine Plan.pickFb rfl rfl rfl ?_
        refine Plan.move_bool rfl rfl ?_
        refine Plan.passed rfl ?_
        refine Plan.passed rfl ?_
        refine Plan.passed rfl ?_
        refine Plan.pickFb rfl rfl rfl ?_
        refine Plan.move_bool rfl rfl ?_
        refine Plan.passed rfl ?_
        refine Plan.passed rfl ?_
        refine Plan.passed rfl ?_
        refine Plan.pickFb rfl rfl rfl ?_
        refine Plan.move_bool rfl rfl ?_
        refine Plan.passed rfl ?_
        refine Plan.passed rfl ?_
        refine Plan.passed rfl ?_
        refine Plan.pickFb rfl rfl rfl ?_
        refine Plan.move_bool rfl rfl ?_
        refine Plan.passed rfl ?_
        refine Plan.passed rfl ?_
        refine Plan.passed rfl ?_
        refine Plan.pickFb rfl rfl rfl ?_
        refine Plan.move_bool rfl rfl ?_
        refine Plan.passed rfl ?_
        refine Plan.passed rfl ?_
        refine Plan.passed rfl ?_
        refine Plan.pickFb rfl rfl rfl ?_
        refine Plan.assign_bool rfl rfl ?_
        refine Plan.nil ?_
        refine hK47 _ _ ?_; clear hK47
        refine W.ret (finR_ret ?_)
        have h64 := St.pickT (C := [_, _, _, _, _, _, _]) h46 [] (by decide)
        simp only [pick, List.filterMap_cons, List.filterMap_nil, List.getElem?_cons_zero, List.getElem?_cons_succ, List.cons_append, List.nil_append] at h64
        subst r
        refine RetOk.mk (.tmp_bool rfl .nil) ?_
        exact ⟨rfl, h64⟩
    ·
      replace hR := ifF hR hc49
      refine Plan.cmpV (a := (((x_36 : Nat) : Int) : Int)) (b := (0 : Int)) (p := x_36 = 0) (v := false) rfl rfl rfl rfl icmp_eqN (decide_eq_false hc49) ?_
      refine Plan.pickTb rfl rfl rfl ?_
      refine Plan.move_bool rfl rfl ?_
      refine Plan.passed rfl ?_
      refine Plan.passed rfl ?_
      refine Plan.pickFb rfl rfl rfl ?_
      refine Plan.move_bool rfl rfl ?_
      refine Plan.passed rfl ?_
      refine Plan.passed rfl ?_
      refine Plan.passed rfl ?_
      refine Plan.pickFb rfl rfl rfl ?_
      refine Plan.move_bool rfl rfl ?_
      refine Plan.passed rfl ?_
      refine Plan.passed rfl ?_
      refine Plan.passed rfl ?_
      refine Plan.pickFb rfl rfl rfl ?_
      refine Plan.move_bool rfl rfl ?_
      refine Plan.passed rfl ?_
      refine Plan.passed rfl ?_
      refine Plan.passed rfl ?_
      refine Plan.pickFb rfl rfl rfl ?_
      refine Plan.move_bool rfl rfl ?_
      refine Plan.passed rfl ?_
      refine Plan.passed rfl ?_
      refine Plan.passed rfl ?_
      refine Plan.pickFb rfl rfl rfl ?_
      refine Plan.move_bool rfl rfl ?_
      refine Plan.passed rfl ?_
      refine Plan.passed rfl ?_
      refine Plan.passed rfl ?_
      refine Plan.pickFb rfl rfl rfl ?_
      refine Plan.move_bool rfl rfl ?_
      refine Plan.passed rfl ?_
      refine Plan.passed rfl ?_
      refine Plan.passed rfl ?_
      refine Plan.pickFb rfl rfl rfl ?_
      refine Plan.move_bool rfl rfl ?_
      refine Plan.passed rfl ?_
      refine Plan.passed rfl ?_
      refine Plan.passed rfl ?_
      refine Plan.pickFb rfl rfl rfl ?_
      refine Plan.assign_bool rfl rfl ?_
      refine Plan.nil ?_
      refine hK47 _ _ ?_; clear hK47
      refine W.ret (finR_ret ?_)
      have h65 := St.pickT (C := [_, _, _, _, _, _, _]) h46 [] (by decide)
      simp only [pick, List.filterMap_cons, List.filterMap_nil, List.getElem?_cons_zero, List.getElem?_cons_succ, List.cons_append, List.nil_append] at h65
      subst r
      refine RetOk.mk (.tmp_bool rfl .nil) ?_
      exact ⟨rfl, h65⟩
  ·
    replace hR := ifF hR hc48
    refine Plan.cmpV (a := (((x_29 : Nat) : Int) : Int)) (b := (0 : Int)) (p := x_29 = 0) (v := false) rfl rfl rfl rfl icmp_eqN (decide_eq_false hc48) ?_
    refine Plan.move_bool rfl rfl ?_
    refine Plan.passed rfl ?_
    refine Plan.passed rfl ?_
    refine Plan.pickFb rfl rfl rfl ?_
    refine Plan.move_bool rfl rfl ?_
    refine Plan.passed rfl ?_
    refine Plan.passed rfl ?_
    refine Plan.pickFb rfl rfl rfl ?_
    refine Plan.move_bool rfl rfl ?_
    refine Plan.passed rfl ?_
    refine Plan.passed rfl ?_
    refine Plan.passed rfl ?_
    refine Plan.pickFb rfl rfl rfl ?_
    refine Plan.move_bool rfl rfl ?_
    refine Plan.passed rfl ?_
    refine Plan.passed rfl ?_
    refine Plan.passed rfl ?_
    refine Plan.pickFb rfl rfl rfl ?_
    refine Plan.move_bool rfl rfl ?_
    refine Plan.passed rfl ?_
    refine Plan.passed rfl ?_
    refine Plan.passed rfl ?_
    refine Plan.pickFb rfl rfl rfl ?_
    refine Plan.move_bool rfl rfl ?_
    refine Plan.passed rfl ?_
    refine Plan.passed rfl ?_
    refine Plan.passed rfl ?_
    refine Plan.pickFb rfl rfl rfl ?_
    refine Plan.move_bool rfl rfl ?_
    refine Plan.passed rfl ?_
    refine Plan.passed rfl ?_
    refine Plan.passed rfl ?_
    refine Plan.pickFb rfl rfl rfl ?_
    refine Plan.move_bool rfl rfl ?_
    refine Plan.passed rfl ?_
    refine Plan.passed rfl ?_
    refine Plan.passed rfl ?_
    refine Plan.pickFb rfl rfl rfl ?_
    refine Plan.move_bool rfl rfl ?_
    refine Plan.passed rfl ?_
    refine Plan.passed rfl ?_
    refine Plan.passed rfl ?_
    refine Plan.pickFb rfl rfl rfl ?_
    refine Plan.assign_bool rfl rfl ?_
    refine Plan.nil ?_
    refine hK47 _ _ ?_; clear hK47
    refine W.ret (finR_ret ?_)
    have h66 := St.pickT (C := [_, _, _, _, _, _, _]) h46 [] (by decide)
    simp only [pick, List.filterMap_cons, List.filterMap_nil, List.getElem?_cons_zero, List.getElem?_cons_succ, List.cons_append, List.nil_append] at h66
    subst r
    refine RetOk.mk (.tmp_bool rfl .nil) ?_
    exact ⟨rfl, h66⟩


set_option maxRecDepth 8000 in
set_option maxHeartbeats 1000000 in
theorem lethelaw07_pair_ok {B : Nat} {w0 w : World} {L : List Rg} {iG0 : Nat} (hG0 : L[iG0]? = some ⟨some 0, 0, 5, fun q => VU .u64 (twice5 q), false⟩) {draw1 : List Byte} {adraw1 : Option Addr} {ndraw1 cdraw1 idraw1 : Nat} (hdraw1 : Bx L idraw1 adraw1 ndraw1 cdraw1 draw1) {r : Bool} (hR : lethelaw07_pair draw1 r) (HST : St B w0 (L) w) :
    Calls Tryd.prog 57 #[.slice adraw1 ndraw1 cdraw1] w fun e w' => e = .returned (.bool r) ∧ St B w0 (L) w' := by
  refine W.enter 41 Tryd.func57 rfl rfl rfl ?_
  unfold lethelaw07_pair at hR
  have edraw1 := hdraw1.hl; subst edraw1
  refine W.seq_k fun K2 hK2 => ?_
  refine W.regionT [(0, true)] (by kernel_rfl) ?_
  refine Plan.assign_bool rfl rfl ?_
  refine Plan.nil ?_
  refine hK2 _ _ ?_; clear hK2
  refine W.seq_k fun K3 hK3 => ?_
  refine W.regionT [(0, true), (1, true), (2, true), (3, false), (4, true)] (by kernel_rfl) ?_
  refine Plan.move_slice rfl rfl ?_
  refine Plan.toStrV HST hdraw1 FLaw07.slu67 FLaw07.u5 FLaw07.str9 rfl rfl fun r4 hr4 => ?_
  replace hr4 := or_un [] hr4
  obtain ⟨hc5, hR⟩ := hR
  refine Plan.addStr (X := draw1) (Y := [85#8, 170#8]) hc5 rfl rfl rfl ?_
  refine Plan.ofStr (X := (draw1 ++ [85#8, 170#8])) HST FLaw07.str9 FLaw07.slu67 FLaw07.u5 rfl rfl (fun _ => EffO.keep (PIn.or (idraw1 + 1) (or_get hr4 [_]) PIn.nil)) fun b6 cap6 w6 hb6 ho6 h6 => ?_
  refine Plan.assign_slice rfl rfl ?_
  refine Plan.nil ?_
  refine hK3 _ _ ?_; clear hK3
  refine W.seq_k fun K7 hK7 => ?_
  refine W.regionT [(0, true), (1, true), (2, true), (3, true), (4, false), (5, true), (6, true), (7, true), (8, false), (9, false), (10, true)] (by kernel_rfl) ?_
  refine Plan.move_slice rfl rfl ?_
  refine Plan.move_slice rfl rfl ?_
  refine Plan.len FLaw07.isl67 rfl rfl ?_
  obtain ⟨hc8, hR⟩ := hR
  have hm9 := ho6.hc
  refine Plan.slSl (lo := 0) (hi := draw1.length) FLaw07.sl67 rfl rfl rfl ⟨_, rfl⟩ (by omega) ?_
  obtain ⟨x_11, x_12, x_13, hr10, hR⟩ := hR
  refine Plan.call (vs := [.slice (if cap6 = 0 then (some ⟨b6, 0, none⟩ : Option Addr) else (some ⟨b6, 0, none⟩ : Option Addr).map (·.add (0 * 1))) (draw1.length - 0) (cap6 - 0)]) rfl FLaw07.call30 rfl (curve_NewPair_ok (iG0 := iG0 + 1) hG0 (by exact ((ho6.bx 0 rfl).seg (lo := 0) (hi := draw1.length) hc8)) hr10 h6) ?_
  rintro _ w14 ⟨rfl, h14⟩
  refine ⟨_, rfl, .inl ⟨PIn.keep PIn.nil h14, ?_⟩⟩
  refine Plan.move_tuple rfl rfl ?_
  refine Plan.extract_agg rfl rfl rfl ?_
  refine Plan.extract_int rfl rfl rfl ?_
  refine Plan.alloc h14 rfl FLaw07.z72 PIn.nil fun b15 w15 hb15 h15 => ?_
  simp only [rngs, Nat.zero_add, Nat.reduceAdd, List.cons_append, List.nil_append] at h15
  refine Plan.storeP (ps := [(32, fun q => VU .u8 (x_11 q)), (32, fun q => VU .u8 (x_12 q))]) h15 rfl rfl rfl (.cons 0 rfl (.cons 1 rfl .nil)) ⟨fun _ _ => rfl, fun _ _ => rfl, trivial⟩ FLaw07.sz72 (EffO.keep PIn.nil) fun w16 h16 => ?_
  simp only [List.cons_append, List.nil_append, List.set_cons_zero, List.set_cons_succ] at h16
  refine Plan.assign_int rfl rfl ?_
  refine Plan.nil ?_
  refine hK7 _ _ ?_; clear hK7
  refine W.seq_k fun K17 hK17 => ?_
  refine W.regionT [(0, true), (1, false), (2, true), (3, true), (4, true), (5, false), (6, false), (7, true)] (by kernel_rfl) ?_
  refine Plan.move_slice rfl rfl ?_
  obtain ⟨x_19, x_20, x_21, hr18, hR⟩ := hR
  refine Plan.call (vs := [.slice adraw1 draw1.length cdraw1]) rfl FLaw07.call74 rfl (letheref07_NewPair_ok (hdraw1.app [_, _, _]) hr18 h16) ?_
  rintro _ w22 ⟨rfl, h22⟩
  refine ⟨_, rfl, .inl ⟨PIn.keep PIn.nil h22, ?_⟩⟩
  refine Plan.move_tuple rfl rfl ?_
  refine Plan.extract_agg rfl rfl rfl ?_
  refine Plan.extract_int rfl rfl rfl ?_
  refine Plan.alloc h22 rfl FLaw07.z72 PIn.nil fun b23 w23 hb23 h23 => ?_
  simp only [rngs, Nat.zero_add, Nat.reduceAdd, List.cons_append, List.nil_append] at h23
  refine Plan.storeP (ps := [(32, fun q => VU .u8 (x_19 q)), (32, fun q => VU .u8 (x_20 q))]) h23 rfl rfl rfl (.cons 0 rfl (.cons 1 rfl .nil)) ⟨fun _ _ => rfl, fun _ _ => rfl, trivial⟩ FLaw07.sz72 (EffO.keep PIn.nil) fun w24 h24 => ?_
  simp only [List.cons_append, List.nil_append, List.set_cons_zero, List.set_cons_succ] at h24
  refine Plan.assign_int rfl rfl ?_
  refine Plan.nil ?_
  refine hK17 _ _ ?_; clear hK17
  refine W.seq_k fun K25 hK25 => ?_
  refine W.regionT [(0, true), (1, true), (2, true), (3, true), (4, true), (5, true), (6, true), (7, true), (8, true), (9, true), (10, true), (11, true), (12, true), (13, true), (14, true), (15, true), (16, true)] (by kernel_rfl) ?_
  refine Plan.loadA h24 rfl rfl (.cons 2 rfl (.cons 3 rfl .nil)) FLaw07.agg72 ?_
  refine Plan.loadA h24 rfl rfl (.cons 0 rfl (.cons 1 rfl .nil)) FLaw07.agg72 ?_
  by_cases hc26 : ((eqB 32 x_11 x_19) && ((eqB 32 x_12 x_20) && true)) = true
  ·
    replace hR := ifT hR hc26
    refine Plan.eqStrV' (c := true) FLaw07.eqg72 rfl rfl rfl (EqV.struct (d := 9999) (l := [(23, 0), (23, 32)]) FLaw07.flds72 (.agg [] [(32, fun q => VU .u8 (x_11 q))] [(32, fun q => VU .u8 (x_12 q))] [] [(32, fun q => VU .u8 (x_19 q))] [(32, fun q => VU .u8 (x_20 q))] rfl rfl rfl rfl FLaw07.agg23 FLaw07.agg23 (EqV.arr (d := 9997) (F := x_11) (G := x_19) FLaw07.arrI23) (.agg [(32, fun q => VU .u8 (x_11 q))] [(32, fun q => VU .u8 (x_12 q))] [] [(32, fun q => VU .u8 (x_19 q))] [(32, fun q => VU .u8 (x_20 q))] [] rfl rfl rfl rfl FLaw07.agg23 FLaw07.agg23 (EqV.arr (d := 9997) (F := x_12) (G := x_20) FLaw07.arrI23) .nil))) hc26 ?_
    refine Plan.move_bool rfl rfl ?_
    refine Plan.move_int rfl rfl ?_
    refine Plan.move_int rfl rfl ?_
    by_cases hc27 : x_13 = x_21
    ·
      replace hR := ifT hR hc27
      refine Plan.cmpV (a := (((x_13 : Nat) : Int) : Int)) (b := (((x_21 : Nat) : Int) : Int)) (p := x_13 = x_21) (v := true) rfl rfl rfl rfl icmp_eqN (decide_eq_true hc27) ?_
      refine Plan.pickTb rfl rfl rfl ?_
      refine Plan.move_bool rfl rfl ?_
      refine Plan.move_slice rfl rfl ?_
      refine Plan.toStrV h24 (ho6.bx 4 rfl) FLaw07.slu67 FLaw07.u5 FLaw07.str9 rfl rfl fun r28 hr28 => ?_
      refine Plan.move_slice rfl rfl ?_
      refine Plan.toStrV h24 (hdraw1.app [_, _, _, _, _]) FLaw07.slu67 FLaw07.u5 FLaw07.str9 rfl rfl fun r29 hr29 => ?_
      replace hr29 := or_un [_, _, _, _, _] hr29
      obtain ⟨hc30, hR⟩ := hR
      refine Plan.addStr (X := draw1) (Y := [85#8, 170#8]) hc30 rfl rfl rfl ?_
      refine Plan.eqStrV (v := decide ((draw1 ++ [85#8, 170#8]) = (draw1 ++ [85#8, 170#8]))) rfl rfl rfl rfl ?_
      refine Plan.pickTb rfl rfl rfl ?_
      refine Plan.assign_bool rfl rfl ?_
      refine Plan.nil ?_
      refine hK25 _ _ ?_; clear hK25
      refine W.ret (finR_ret ?_)
      have h31 := St.pickT (C := [_, _, _, _, _]) h24 [] (by decide)
      simp only [pick, List.filterMap_cons, List.filterMap_nil, List.getElem?_cons_zero, List.getElem?_cons_succ, List.cons_append, List.nil_append] at h31
      subst r
      refine RetOk.mk (.tmp_bool rfl .nil) ?_
      exact ⟨rfl, h31⟩
    ·
      replace hR := ifF hR hc27
      refine Plan.cmpV (a := (((x_13 : Nat) : Int) : Int)) (b := (((x_21 : Nat) : Int) : Int)) (p := x_13 = x_21) (v := false) rfl rfl rfl rfl icmp_eqN (decide_eq_false hc27) ?_
      refine Plan.pickTb rfl rfl rfl ?_
      refine Plan.move_bool rfl rfl ?_
      refine Plan.passed rfl ?_
      refine Plan.passed rfl ?_
      refine Plan.passed rfl ?_
      refine Plan.passed rfl ?_
      refine Plan.passed rfl ?_
      refine Plan.passed rfl ?_
      refine Plan.pickFb rfl rfl rfl ?_
      refine Plan.assign_bool rfl rfl ?_
      refine Plan.nil ?_
      refine hK25 _ _ ?_; clear hK25
      refine W.ret (finR_ret ?_)
      have h32 := St.pickT (C := [_, _, _, _, _]) h24 [] (by decide)
      simp only [pick, List.filterMap_cons, List.filterMap_nil, List.getElem?_cons_zero, List.getElem?_cons_succ, List.cons_append, List.nil_append] at h32
      subst r
      refine RetOk.mk (.tmp_bool rfl .nil) ?_
      exact ⟨rfl, h32⟩
  ·
    replace hR := ifF hR hc26
    refine Plan.eqStrV' (c := false) FLaw07.eqg72 rfl rfl rfl (EqV.struct (d := 9999) (l := [(23, 0), (23, 32)]) FLaw07.flds72 (.agg [] [(32, fun q => VU .u8 (x_11 q))] [(32, fun q => VU .u8 (x_12 q))] [] [(32, fun q => VU .u8 (x_19 q))] [(32, fun q => VU .u8 (x_20 q))] rfl rfl rfl rfl FLaw07.agg23 FLaw07.agg23 (EqV.arr (d := 9997) (F := x_11) (G := x_19) FLaw07.arrI23) (.agg [(32, fun q => VU .u8 (x_11 q))] [(32, fun q => VU .u8 (x_12 q))] [] [(32, fun q => VU .u8 (x_19 q))] [(32, fun q => VU .u8 (x_20 q))] [] rfl rfl rfl rfl FLaw07.agg23 FLaw07.agg23 (EqV.arr (d := 9997) (F := x_12) (G := x_20) FLaw07.arrI23) .nil))) (Bool.eq_false_iff.2 hc26) ?_
    refine Plan.move_bool rfl rfl ?_
    refine Plan.passed rfl ?_
    refine Plan.passed rfl ?_
    refine Plan.passed rfl ?_
    refine Plan.pickFb rfl rfl rfl ?_
    refine Plan.move_bool rfl rfl ?_
    refine Plan.passed rfl ?_
    refine Plan.passed rfl ?_
    refine Plan.passed rfl ?_
    refine Plan.passed rfl ?_
    refine Plan.passed rfl ?_
    refine Plan.passed rfl ?_
    refine Plan.pickFb rfl rfl rfl ?_
    refine Plan.assign_bool rfl rfl ?_
    refine Plan.nil ?_
    refine hK25 _ _ ?_; clear hK25
    refine W.ret (finR_ret ?_)
    have h33 := St.pickT (C := [_, _, _, _, _]) h24 [] (by decide)
    simp only [pick, List.filterMap_cons, List.filterMap_nil, List.getElem?_cons_zero, List.getElem?_cons_succ, List.cons_append, List.nil_append] at h33
    subst r
    refine RetOk.mk (.tmp_bool rfl .nil) ?_
    exact ⟨rfl, h33⟩


set_option maxRecDepth 8000 in
set_option maxHeartbeats 1000000 in
theorem lethelaw07_plays_ok {B : Nat} {w0 w : World} {L : List Rg} {iG0 : Nat} (hG0 : L[iG0]? = some ⟨some 0, 0, 5, fun q => VU .u64 (twice5 q), false⟩) {sKind1 : Int} {sK2 : Nat → BitVec 8} {sU3 : Nat → BitVec 8} {sDraw4 : List Byte} {asDraw4 : Option Addr} {nsDraw4 csDraw4 isDraw4 : Nat} (hsDraw4 : Bx L isDraw4 asDraw4 nsDraw4 csDraw4 sDraw4) {r : Bool} (hR : lethelaw07_plays sKind1 sK2 sU3 sDraw4 r) (HST : St B w0 (L) w) :
    Calls Tryd.prog 29 #[AG [(1, fun _ => .int .i64 sKind1), (32, fun q => VU .u8 (sK2 q)), (32, fun q => VU .u8 (sU3 q)), (1, fun _ => .slice asDraw4 nsDraw4 csDraw4)]] w fun e w' => e = .returned (.bool r) ∧ St B w0 (L) w' := by
  refine W.enter 71 Tryd.func29 rfl rfl rfl ?_
  unfold lethelaw07_plays at hR
  have esDraw4 := hsDraw4.hl; subst esDraw4
  refine W.seq_k fun K5 hK5 => ?_
  refine W.regionT [(0, false), (1, true)] (by kernel_rfl) ?_
  refine Plan.boxA HST rfl rfl PIn.nil fun b6 w6 hb6 h6 => ?_
  simp only [rngs, Nat.zero_add, Nat.reduceAdd, List.cons_append, List.nil_append] at h6
  refine Plan.assign_bool rfl rfl ?_
  refine Plan.nil ?_
  refine hK5 _ _ ?_; clear hK5
  refine W.seq_k fun K7 hK7 => ?_
  refine W.seq_k fun K8 hK8 => ?_
  refine W.regionT [(0, true), (1, true)] (by kernel_rfl) ?_
  refine Plan.fieldAddr0 FLaw07.fld69_0 rfl rfl ?_
  refine Plan.load0 h6 0 rfl rfl rfl (by omega) FLaw07.sc3 ?_
  refine Plan.nil ?_
  refine hK8 _ _ ?_; clear hK8
  refine W.block ?_
  refine W.seq_k fun K9 hK9 => ?_
  refine W.regionT [(0, true), (1, true)] (by kernel_rfl) ?_
  refine Plan.cmpP (a := (sKind1 : Int)) (b := (1 : Int)) (p := sKind1 = 1) rfl rfl rfl rfl icmp_eq ?_
  refine Plan.assign_bool rfl rfl ?_
  refine Plan.nil ?_
  refine hK9 _ _ ?_; clear hK9
  by_cases hc10 : sKind1 = 1
  ·
    replace hR := ifT hR hc10
    refine W.condT (congrArg Value.bool (decide_eq_true hc10)) ?_
    refine W.seq_k fun K11 hK11 => ?_
    refine W.regionD FLaw07.mixed [(0, true), (1, true), (3, true), (4, true), (2, false), (5, false), (6, true), (7, true)] (by kernel_rfl) ?_
    have h12 := h6.drew
    refine Plan.fieldAddr 1 FLaw07.fld69_1 rfl rfl ?_
    refine Plan.loadA1 h12 1 rfl rfl rfl FLaw07.agg23 ?_
    refine Plan.fieldAddr 1 FLaw07.fld69_1 rfl rfl ?_
    refine Plan.loadA1 h12 1 rfl rfl rfl FLaw07.agg23 ?_
    obtain ⟨x_14, hr13, hR⟩ := hR
    refine Plan.call (vs := [AG [(32, fun q => VU .u8 (sK2 q))]]) rfl FLaw07.call26 rfl (curve_Clamp_ok  hr13 h12) ?_
    rintro _ w15 ⟨rfl, h15⟩
    refine ⟨_, rfl, .inl ⟨PIn.keep (PIn.cons 1 rfl (PIn.cons 1 rfl PIn.nil)) h15, ?_⟩⟩
    obtain ⟨x_17, hr16, hR⟩ := hR
    refine Plan.call (vs := [AG [(32, fun q => VU .u8 (sK2 q))]]) rfl FLaw07.call53 rfl (letheref07_Clamp_ok  hr16 h15) ?_
    rintro _ w18 ⟨rfl, h18⟩
    refine ⟨_, rfl, .inl ⟨PIn.keep (PIn.cons 1 rfl (PIn.cons 1 rfl PIn.nil)) h18, ?_⟩⟩
    refine Plan.eqArrV (b := (eqB 32 x_14 x_17)) FLaw07.arrI23 rfl rfl rfl rfl ?_
    refine Plan.assign_bool rfl rfl ?_
    refine Plan.nil ?_
    refine hK11 _ _ ?_; clear hK11
    refine W.ret (blockR_ret (thenR_ret (finR_ret ?_)))
    have h19 := St.pickT (C := [_, _, _, _]) h18 [] (by decide)
    simp only [pick, List.filterMap_cons, List.filterMap_nil, List.getElem?_cons_zero, List.getElem?_cons_succ, List.cons_append, List.nil_append] at h19
    subst r
    refine RetOk.mk (.tmp_bool rfl .nil) ?_
    exact ⟨rfl, h19⟩
  ·
    replace hR := ifF hR hc10
    refine W.condF (congrArg Value.bool (decide_eq_false hc10)) ?_
    refine W.seq_k fun K20 hK20 => ?_
    refine W.regionT [(0, true), (1, true)] (by kernel_rfl) ?_
    refine Plan.cmpP (a := (sKind1 : Int)) (b := (2 : Int)) (p := sKind1 = 2) rfl rfl rfl rfl icmp_eq ?_
    refine Plan.assign_bool rfl rfl ?_
    refine Plan.nil ?_
    refine hK20 _ _ ?_; clear hK20
    by_cases hc21 : sKind1 = 2
    ·
      replace hR := ifT hR hc21
      refine W.condT (congrArg Value.bool (decide_eq_true hc21)) ?_
      refine W.seq_k fun K22 hK22 => ?_
      refine W.regionD FLaw07.mixed [(0, true), (1, true), (2, true), (3, true), (5, true), (6, true), (7, true), (8, true), (4, false), (9, false), (10, true), (11, true)] (by kernel_rfl) ?_
      have h23 := h6.drew
      refine Plan.fieldAddr 1 FLaw07.fld69_1 rfl rfl ?_
      refine Plan.loadA1 h23 1 rfl rfl rfl FLaw07.agg23 ?_
      refine Plan.fieldAddr 33 FLaw07.fld69_2 rfl rfl ?_
      refine Plan.loadA1 h23 2 rfl rfl rfl FLaw07.agg23 ?_
      refine Plan.fieldAddr 1 FLaw07.fld69_1 rfl rfl ?_
      refine Plan.loadA1 h23 1 rfl rfl rfl FLaw07.agg23 ?_
      refine Plan.fieldAddr 33 FLaw07.fld69_2 rfl rfl ?_
      refine Plan.loadA1 h23 2 rfl rfl rfl FLaw07.agg23 ?_
      obtain ⟨x_25, hr24, hR⟩ := hR
      refine Plan.call (vs := [AG [(32, fun q => VU .u8 (sK2 q))], AG [(32, fun q => VU .u8 (sU3 q))]]) rfl FLaw07.call24 rfl (curve_Times_ok (iG0 := iG0 + 4) hG0 hr24 h23) ?_
      rintro _ w26 ⟨rfl, h26⟩
      refine ⟨_, rfl, .inl ⟨PIn.keep (PIn.cons 2 rfl (PIn.cons 1 rfl (PIn.cons 2 rfl (PIn.cons 1 rfl PIn.nil)))) h26, ?_⟩⟩
      obtain ⟨x_28, hr27, hR⟩ := hR
      refine Plan.call (vs := [AG [(32, fun q => VU .u8 (sK2 q))], AG [(32, fun q => VU .u8 (sU3 q))]]) rfl FLaw07.call54 rfl (letheref07_Times_ok  hr27 h26) ?_
      rintro _ w29 ⟨rfl, h29⟩
      refine ⟨_, rfl, .inl ⟨PIn.keep (PIn.cons 2 rfl (PIn.cons 1 rfl (PIn.cons 2 rfl (PIn.cons 1 rfl PIn.nil)))) h29, ?_⟩⟩
      refine Plan.eqArrV (b := (eqB 32 x_25 x_28)) FLaw07.arrI23 rfl rfl rfl rfl ?_
      refine Plan.assign_bool rfl rfl ?_
      refine Plan.nil ?_
      refine hK22 _ _ ?_; clear hK22
      refine W.ret (blockR_ret (thenR_ret (finR_ret ?_)))
      have h30 := St.pickT (C := [_, _, _, _]) h29 [] (by decide)
      simp only [pick, List.filterMap_cons, List.filterMap_nil, List.getElem?_cons_zero, List.getElem?_cons_succ, List.cons_append, List.nil_append] at h30
      subst r
      refine RetOk.mk (.tmp_bool rfl .nil) ?_
      exact ⟨rfl, h30⟩
    ·
      replace hR := ifF hR hc21
      refine W.condF (congrArg Value.bool (decide_eq_false hc21)) ?_
      refine W.seq_k fun K31 hK31 => ?_
      refine W.regionT [(0, true), (1, true)] (by kernel_rfl) ?_
      refine Plan.cmpP (a := (sKind1 : Int)) (b := (3 : Int)) (p := sKind1 = 3) rfl rfl rfl rfl icmp_eq ?_
      refine Plan.assign_bool rfl rfl ?_
      refine Plan.nil ?_
      refine hK31 _ _ ?_; clear hK31
      by_cases hc32 : sKind1 = 3
      ·
        replace hR := ifT hR hc32
        refine W.condT (congrArg Value.bool (decide_eq_true hc32)) ?_
        refine W.seq_k fun K33 hK33 => ?_
        refine W.regionD FLaw07.mixed [(0, true), (1, true), (3, true), (4, true), (2, false), (5, false), (6, true), (7, true)] (by kernel_rfl) ?_
        have h34 := h6.drew
        refine Plan.fieldAddr 1 FLaw07.fld69_1 rfl rfl ?_
        refine Plan.loadA1 h34 1 rfl rfl rfl FLaw07.agg23 ?_
        refine Plan.fieldAddr 1 FLaw07.fld69_1 rfl rfl ?_
        refine Plan.loadA1 h34 1 rfl rfl rfl FLaw07.agg23 ?_
        obtain ⟨x_36, hr35, hR⟩ := hR
        refine Plan.call (vs := [AG [(32, fun q => VU .u8 (sK2 q))]]) rfl FLaw07.call31 rfl (curve_Public_ok (iG0 := iG0 + 4) hG0 hr35 h34) ?_
        rintro _ w37 ⟨rfl, h37⟩
        refine ⟨_, rfl, .inl ⟨PIn.keep (PIn.cons 1 rfl (PIn.cons 1 rfl PIn.nil)) h37, ?_⟩⟩
        obtain ⟨x_39, hr38, hR⟩ := hR
        refine Plan.call (vs := [AG [(32, fun q => VU .u8 (sK2 q))]]) rfl FLaw07.call55 rfl (letheref07_Public_ok  hr38 h37) ?_
        rintro _ w40 ⟨rfl, h40⟩
        refine ⟨_, rfl, .inl ⟨PIn.keep (PIn.cons 1 rfl (PIn.cons 1 rfl PIn.nil)) h40, ?_⟩⟩
        refine Plan.eqArrV (b := (eqB 32 x_36 x_39)) FLaw07.arrI23 rfl rfl rfl rfl ?_
        refine Plan.assign_bool rfl rfl ?_
        refine Plan.nil ?_
        refine hK33 _ _ ?_; clear hK33
        refine W.ret (blockR_ret (thenR_ret (finR_ret ?_)))
        have h41 := St.pickT (C := [_, _, _, _]) h40 [] (by decide)
        simp only [pick, List.filterMap_cons, List.filterMap_nil, List.getElem?_cons_zero, List.getElem?_cons_succ, List.cons_append, List.nil_append] at h41
        subst r
        refine RetOk.mk (.tmp_bool rfl .nil) ?_
        exact ⟨rfl, h41⟩
      ·
        replace hR := ifF hR hc32
        refine W.condF (congrArg Value.bool (decide_eq_false hc32)) ?_
        refine W.seq_k fun K42 hK42 => ?_
        refine W.regionT [(0, true), (1, true)] (by kernel_rfl) ?_
        refine Plan.cmpP (a := (sKind1 : Int)) (b := (4 : Int)) (p := sKind1 = 4) rfl rfl rfl rfl icmp_eq ?_
        refine Plan.assign_bool rfl rfl ?_
        refine Plan.nil ?_
        refine hK42 _ _ ?_; clear hK42
        by_cases hc43 : sKind1 = 4
        ·
          replace hR := ifT hR hc43
          refine W.condT (congrArg Value.bool (decide_eq_true hc43)) ?_
          refine W.seq_k fun K44 hK44 => ?_
          refine W.regionT [(0, true), (1, true), (2, true), (3, true), (4, false), (5, true), (6, true), (7, true), (8, false), (9, false), (10, true)] (by kernel_rfl) ?_
          refine Plan.fieldAddr 1 FLaw07.fld69_1 rfl rfl ?_
          refine Plan.loadA1 h6 1 rfl rfl rfl FLaw07.agg23 ?_
          refine Plan.fieldAddr 33 FLaw07.fld69_2 rfl rfl ?_
          refine Plan.loadA1 h6 2 rfl rfl rfl FLaw07.agg23 ?_
          obtain ⟨x_46, x_47, hr45, hR⟩ := hR
          refine Plan.call (vs := [AG [(32, fun q => VU .u8 (sK2 q))], AG [(32, fun q => VU .u8 (sU3 q))]]) rfl FLaw07.call28 rfl (curve_Shared_ok (iG0 := iG0 + 4) hG0 hr45 h6) ?_
          rintro _ w48 ⟨rfl, h48⟩
          refine ⟨_, rfl, .inr ⟨rfl, ?_⟩⟩
          refine Plan.move_tuple rfl rfl ?_
          refine Plan.extract_agg rfl rfl rfl ?_
          refine Plan.extract_int rfl rfl rfl ?_
          refine Plan.alloc h48 rfl FLaw07.z23 PIn.nil fun b49 w49 hb49 h49 => ?_
          simp only [rngs, Nat.zero_add, Nat.reduceAdd, List.cons_append, List.nil_append] at h49
          refine Plan.storeA (f' := fun q => VU .u8 (x_46 q)) h49 0 rfl rfl rfl rfl (fun _ _ => rfl) FLaw07.sz23 rfl fun w50 h50 => ?_
          simp only [List.cons_append, List.nil_append, List.set_cons_zero, List.set_cons_succ] at h50
          refine Plan.assign_int rfl rfl ?_
          refine Plan.nil ?_
          refine hK44 _ _ ?_; clear hK44
          refine W.seq_k fun K51 hK51 => ?_
          refine W.regionT [(0, true), (1, true), (2, true), (3, true), (4, false), (5, true), (6, true), (7, true), (8, false), (9, false), (10, true)] (by kernel_rfl) ?_
          refine Plan.fieldAddr 1 FLaw07.fld69_1 rfl rfl ?_
          refine Plan.loadA1 h50 2 rfl rfl rfl FLaw07.agg23 ?_
          refine Plan.fieldAddr 33 FLaw07.fld69_2 rfl rfl ?_
          refine Plan.loadA1 h50 3 rfl rfl rfl FLaw07.agg23 ?_
          obtain ⟨x_53, x_54, hr52, hR⟩ := hR
          refine Plan.call (vs := [AG [(32, fun q => VU .u8 (sK2 q))], AG [(32, fun q => VU .u8 (sU3 q))]]) rfl FLaw07.call56 rfl (letheref07_Shared_ok  hr52 h50) ?_
          rintro _ w55 ⟨rfl, h55⟩
          refine ⟨_, rfl, .inr ⟨rfl, ?_⟩⟩
          refine Plan.move_tuple rfl rfl ?_
          refine Plan.extract_agg rfl rfl rfl ?_
          refine Plan.extract_int rfl rfl rfl ?_
          refine Plan.alloc h55 rfl FLaw07.z23 PIn.nil fun b56 w56 hb56 h56 => ?_
          simp only [rngs, Nat.zero_add, Nat.reduceAdd, List.cons_append, List.nil_append] at h56
          refine Plan.storeA (f' := fun q => VU .u8 (x_53 q)) h56 0 rfl rfl rfl rfl (fun _ _ => rfl) FLaw07.sz23 rfl fun w57 h57 => ?_
          simp only [List.cons_append, List.nil_append, List.set_cons_zero, List.set_cons_succ] at h57
          refine Plan.assign_int rfl rfl ?_
          refine Plan.nil ?_
          refine hK51 _ _ ?_; clear hK51
          refine W.seq_k fun K58 hK58 => ?_
          refine W.regionT [(0, true), (1, true), (2, true), (3, true), (4, true), (5, true), (6, true), (7, true), (8, true)] (by kernel_rfl) ?_
          refine Plan.loadA1 h57 1 rfl rfl rfl FLaw07.agg23 ?_
          refine Plan.loadA1 h57 0 rfl rfl rfl FLaw07.agg23 ?_
          by_cases hc59 : (eqB 32 x_46 x_53) = true
          ·
            replace hR := ifT hR hc59
            refine Plan.eqArrV (b := true) FLaw07.arrI23 rfl rfl rfl hc59 ?_
            refine Plan.move_bool rfl rfl ?_
            refine Plan.move_int rfl rfl ?_
            refine Plan.move_int rfl rfl ?_
            refine Plan.cmpP (a := (((x_47 : Nat) : Int) : Int)) (b := (((x_54 : Nat) : Int) : Int)) (p := x_47 = x_54) rfl rfl rfl rfl icmp_eqN ?_
            refine Plan.pickTb rfl rfl rfl ?_
            refine Plan.assign_bool rfl rfl ?_
            refine Plan.nil ?_
            refine hK58 _ _ ?_; clear hK58
            refine W.ret (blockR_ret (thenR_ret (finR_ret ?_)))
            have h60 := St.pickT (C := [_, _, _, _, _, _]) h57 [] (by decide)
            simp only [pick, List.filterMap_cons, List.filterMap_nil, List.getElem?_cons_zero, List.getElem?_cons_succ, List.cons_append, List.nil_append] at h60
            subst r
            refine RetOk.mk (.tmp_bool rfl .nil) ?_
            exact ⟨rfl, h60⟩
          ·
            replace hR := ifF hR hc59
            refine Plan.eqArrV (b := false) FLaw07.arrI23 rfl rfl rfl (Bool.eq_false_iff.2 hc59) ?_
            refine Plan.move_bool rfl rfl ?_
            refine Plan.passed rfl ?_
            refine Plan.passed rfl ?_
            refine Plan.passed rfl ?_
            refine Plan.pickFb rfl rfl rfl ?_
            refine Plan.assign_bool rfl rfl ?_
            refine Plan.nil ?_
            refine hK58 _ _ ?_; clear hK58
            refine W.ret (blockR_ret (thenR_ret (finR_ret ?_)))
            have h61 := St.pickT (C := [_, _, _, _, _, _]) h57 [] (by decide)
            simp only [pick, List.filterMap_cons, List.filterMap_nil, List.getElem?_cons_zero, List.getElem?_cons_succ, List.cons_append, List.nil_append] at h61
            subst r
            refine RetOk.mk (.tmp_bool rfl .nil) ?_
            exact ⟨rfl, h61⟩
        ·
          replace hR := ifF hR hc43
          refine W.condF (congrArg Value.bool (decide_eq_false hc43)) ?_
          refine W.seq_k fun K62 hK62 => ?_
          refine W.regionT [(0, true), (1, true)] (by kernel_rfl) ?_
          refine Plan.cmpP (a := (sKind1 : Int)) (b := (5 : Int)) (p := sKind1 = 5) rfl rfl rfl rfl icmp_eq ?_
          refine Plan.assign_bool rfl rfl ?_
          refine Plan.nil ?_
          refine hK62 _ _ ?_; clear hK62
          by_cases hc63 : sKind1 = 5
          ·
            replace hR := ifT hR hc63
            refine W.condT (congrArg Value.bool (decide_eq_true hc63)) ?_
            refine W.seq_k fun K64 hK64 => ?_
            refine W.regionT [(0, true), (1, true), (2, false), (3, true)] (by kernel_rfl) ?_
            refine Plan.fieldAddr 65 FLaw07.fld69_3 rfl rfl ?_
            refine Plan.load0 h6 3 rfl rfl rfl (by omega) FLaw07.sc67 ?_
            obtain ⟨x_66, hr65, hR⟩ := hR
            refine Plan.call (vs := [.slice asDraw4 sDraw4.length csDraw4]) rfl FLaw07.call57 rfl (lethelaw07_pair_ok (iG0 := iG0 + 4) hG0 (hsDraw4.app [_, _, _, _]) hr65 h6) ?_
            rintro _ w67 ⟨rfl, h67⟩
            refine ⟨_, rfl, .inr ⟨rfl, ?_⟩⟩
            refine Plan.assign_bool rfl rfl ?_
            refine Plan.nil ?_
            refine hK64 _ _ ?_; clear hK64
            refine W.ret (blockR_ret (thenR_ret (finR_ret ?_)))
            have h68 := St.pickT (C := [_, _, _, _]) h67 [] (by decide)
            simp only [pick, List.filterMap_cons, List.filterMap_nil, List.getElem?_cons_zero, List.getElem?_cons_succ, List.cons_append, List.nil_append] at h68
            subst r
            refine RetOk.mk (.tmp_bool rfl .nil) ?_
            exact ⟨rfl, h68⟩
          ·
            replace hR := ifF hR hc63
            refine W.condF (congrArg Value.bool (decide_eq_false hc63)) ?_
            refine W.skip ?_
            refine blockR_norm ?_
            refine hK7 _ _ ?_; clear hK7
            refine W.seq_k fun K69 hK69 => ?_
            refine W.regionT [(0, true)] (by kernel_rfl) ?_
            refine Plan.assign_bool rfl rfl ?_
            refine Plan.nil ?_
            refine hK69 _ _ ?_; clear hK69
            refine W.ret (finR_ret ?_)
            have h70 := St.pickT (C := [_, _, _, _]) h6 [] (by decide)
            simp only [pick, List.filterMap_cons, List.filterMap_nil, List.getElem?_cons_zero, List.getElem?_cons_succ, List.cons_append, List.nil_append] at h70
            subst r
            refine RetOk.mk (.tmp_bool rfl .nil) ?_
            exact ⟨rfl, h70⟩

end Go.Proofs.YtjblfkmmbpcpaaaDoor
