/-
  WALKS of the package's functions, printed by this session's own program (auto.py).
-/
import Derived.Test.YtjclppnbbpnfnaaDoorProg
import Derived.Test.YtjclppnbbpnfnaaDoorEb
import Derived.Test.YtjclppnbbpnfnaaDoorRRef17
import Derived.Test.YtjclppnbbpnfnaaDoorEls
namespace Go.Proofs.YtjclppnbbpnfnaaDoor
set_option linter.unusedSimpArgs false
set_option linter.unusedVariables false
set_option linter.unusedSectionVars false
open Go Go.LW
theorem FRef17.arr23 : arrB Tryd.prog 23 32 1 = true := by kernel_rfl
theorem FRef17.sc5 : scalarT Tryd.prog 5 = true := by kernel_rfl
theorem FRef17.sz5 : szT Tryd.prog 5 1 = true := by kernel_rfl
theorem FRef17.z31 : zeroIs Tryd.prog 31 [(64, fun _ => VU .u8 0#8)] := zeroIs_agg (by kernel_rfl)
theorem FRef17.arr31 : arrB Tryd.prog 31 64 1 = true := by kernel_rfl
theorem FRef17.agg31 : aggT Tryd.prog 31 64 = true := by kernel_rfl
theorem FRef17.sz31 : szT Tryd.prog 31 64 = true := by kernel_rfl

set_option maxRecDepth 8000 in
set_option maxHeartbeats 1000000 in
theorem letheref17_Bind_ok {B : Nat} {w0 w : World} {L : List Rg} {a1 : Nat → BitVec 8} {b2 : Nat → BitVec 8} {r : (Nat → BitVec 8)} (hR : letheref17_Bind a1 b2 r) (HST : St B w0 (L) w) :
    Calls Tryd.prog 13 #[AG [(32, fun q => VU .u8 (a1 q))], AG [(32, fun q => VU .u8 (b2 q))]] w fun e w' => e = .returned (AG [(64, fun q => VU .u8 (r q))]) ∧ St B w0 (L) w' := by
  refine W.enter 23 Tryd.func13 rfl rfl rfl ?_
  unfold letheref17_Bind at hR
  refine W.seq_k fun K3 hK3 => ?_
  refine W.regionT [(0, false), (1, false), (2, false)] (by kernel_rfl) ?_
  refine Plan.boxA HST rfl rfl PIn.nil fun b4 w4 hb4 h4 => ?_
  simp only [rngs, Nat.zero_add, Nat.reduceAdd, List.cons_append, List.nil_append] at h4
  refine Plan.boxA h4 rfl rfl PIn.nil fun b5 w5 hb5 h5 => ?_
  simp only [rngs, Nat.zero_add, Nat.reduceAdd, List.cons_append, List.nil_append] at h5
  refine Plan.alloc h5 rfl FRef17.z31 PIn.nil fun b6 w6 hb6 h6 => ?_
  simp only [rngs, Nat.zero_add, Nat.reduceAdd, List.cons_append, List.nil_append] at h6
  refine Plan.nil ?_
  refine hK3 _ _ ?_; clear hK3
  refine W.seq_k fun K7 hK7 => ?_
  refine W.regionT [(0, false)] (by kernel_rfl) ?_
  refine Plan.alloc h6 rfl FRef17.z31 PIn.nil fun b8 w8 hb8 h8 => ?_
  simp only [rngs, Nat.zero_add, Nat.reduceAdd, List.cons_append, List.nil_append] at h8
  refine Plan.nil ?_
  refine hK7 _ _ ?_; clear hK7
  refine W.seq_k fun K9 hK9 => ?_
  refine W.seq_k fun K10 hK10 => ?_
  refine W.regionT [(0, true)] (by kernel_rfl) ?_
  refine Plan.assign_int rfl rfl ?_
  refine Plan.nil ?_
  refine hK10 _ _ ?_; clear hK10
  obtain ⟨m29, hI30, hR030⟩ := hR
  refine W.cutN (fun e w => ∃ y_m29 : Nat → BitVec 8, m29 = y_m29 ∧ EnvHas e [(4, .pointer (some ⟨b6, 0, none⟩)), (5, .pointer (some ⟨b8, 0, none⟩))] ∧ St B w0 (⟨some b8, 0, 64, fun q => VU .u8 (y_m29 q), true⟩ :: ⟨some b6, 0, 64, fun q => VU .u8 ((fun _ => 0#8) q), true⟩ :: L) w) ?_ ?_
  ·
    refine W.block ?_
    refine W.iter hI30 (fun (s30 : (Nat × (Nat → BitVec 8))) e w => EnvHas e [(2, .pointer (some ⟨b4, 0, none⟩)), (3, .pointer (some ⟨b5, 0, none⟩)), (4, .pointer (some ⟨b6, 0, none⟩)), (5, .pointer (some ⟨b8, 0, none⟩)), (6, VN s30.1)] ∧ St B w0 (⟨some b8, 0, 64, fun q => VU .u8 (s30.2 q), true⟩ :: ⟨some b6, 0, 64, fun q => VU .u8 ((fun _ => 0#8) q), true⟩ :: ⟨some b5, 0, 32, fun q => VU .u8 (b2 q), true⟩ :: ⟨some b4, 0, 32, fun q => VU .u8 (a1 q), true⟩ :: L) w) ⟨(EnvHas.cons rfl (EnvHas.cons rfl (EnvHas.cons rfl (EnvHas.cons rfl (EnvHas.cons rfl EnvHas.nil))))), h8⟩ ?_
    rintro ⟨i_27, m28⟩ o30 hR hx30 ev31 wl31 ⟨he31, h31⟩
    obtain ⟨ev31, rfl⟩ := he31.open
    unfold letheref17_Bind_l0 at hR
    refine W.seq_k fun K32 hK32 => ?_
    refine W.seq_k fun K33 hK33 => ?_
    refine W.regionT [(0, true), (1, true)] (by kernel_rfl) ?_
    refine Plan.move_int rfl rfl ?_
    refine Plan.cmpP (a := (((i_27 : Nat) : Int) : Int)) (b := (32 : Int)) (p := i_27 < 32) rfl rfl rfl rfl icmp_ltN ?_
    refine Plan.nil ?_
    refine hK33 _ _ ?_; clear hK33
    by_cases hc34 : i_27 < 32
    ·
      replace hR := ifT hR hc34
      refine W.condT (congrArg Value.bool (decide_eq_true hc34)) ?_
      refine W.skip ?_
      refine hK32 _ _ ?_; clear hK32
      refine W.seq_k fun K35 hK35 => ?_
      refine W.block ?_
      refine W.seq_k fun K36 hK36 => ?_
      refine W.regionT [(0, true), (1, true), (2, true), (3, true), (4, true), (5, false)] (by kernel_rfl) ?_
      refine Plan.move_int rfl rfl ?_
      refine Plan.move_int rfl rfl ?_
      refine Plan.idxArr1 (j := i_27) FRef17.arr23 rfl rfl rfl (by omega) ?_
      refine Plan.load1 (j := i_27) h31 3 rfl rfl rfl (by omega) FRef17.sc5 ?_
      refine Plan.idxArr1 (j := i_27) FRef17.arr31 rfl rfl rfl (by omega) ?_
      refine Plan.storeU (j := i_27) (X := (a1 i_27)) h31 0 rfl rfl rfl rfl (by omega) FRef17.sz5 rfl fun w37 h37 => ?_
      simp only [List.cons_append, List.nil_append, List.set_cons_zero, List.set_cons_succ] at h37
      refine Plan.nil ?_
      refine hK36 _ _ ?_; clear hK36
      refine W.regionT [(0, true), (1, true), (2, true), (3, true), (4, true), (5, true), (6, false)] (by kernel_rfl) ?_
      refine Plan.move_int rfl rfl ?_
      refine Plan.addN (a := 32) (b := i_27) rfl rfl rfl (by omega) ?_
      refine Plan.move_int rfl rfl ?_
      refine Plan.idxArr1 (j := i_27) FRef17.arr23 rfl rfl rfl (by omega) ?_
      refine Plan.load1 (j := i_27) h37 2 rfl rfl rfl (by omega) FRef17.sc5 ?_
      refine Plan.idxArr1 (j := (32 + i_27)) FRef17.arr31 rfl rfl rfl (by omega) ?_
      refine Plan.storeU (j := (32 + i_27)) (X := (b2 i_27)) h37 0 rfl rfl rfl rfl (by omega) FRef17.sz5 rfl fun w38 h38 => ?_
      simp only [List.cons_append, List.nil_append, List.set_cons_zero, List.set_cons_succ] at h38
      refine Plan.nil ?_
      refine blockR_norm ?_
      refine hK35 _ _ ?_; clear hK35
      refine W.regionT [(0, true), (1, true), (2, true)] (by kernel_rfl) ?_
      refine Plan.move_int rfl rfl ?_
      refine Plan.addN (a := i_27) (b := 1) rfl rfl rfl (by omega) ?_
      refine Plan.assign_int rfl rfl ?_
      refine Plan.nil ?_
      exact iterR_norm ⟨_, hR, (EnvHas.cons rfl (EnvHas.cons rfl (EnvHas.cons rfl (EnvHas.cons rfl (EnvHas.cons rfl EnvHas.nil))))), h38⟩
    ·
      replace hR := ifF hR hc34
      refine W.condF (congrArg Value.bool (decide_eq_false hc34)) ?_
      refine W.exit (thenR_exit (iterR_exit (blockR_here ?_)))
      have h39 := St.pickT (C := [_, _, _, _]) h31 [0, 1] (by decide)
      simp only [pick, List.filterMap_cons, List.filterMap_nil, List.getElem?_cons_zero, List.getElem?_cons_succ, List.cons_append, List.nil_append] at h39
      exact ⟨m28, (hx30 _ hR).symm, (EnvHas.cons rfl (EnvHas.cons rfl EnvHas.nil)), h39⟩
  ·
    rintro ev40 wl40 ⟨y_m29, hy40, he40, h40⟩
    obtain ⟨ev40, rfl⟩ := he40.open
    subst hy40
    replace hR := hR030
    refine hK9 _ _ ?_; clear hK9
    refine W.seq_k fun K41 hK41 => ?_
    refine W.regionT [(0, true), (1, false)] (by kernel_rfl) ?_
    refine Plan.loadA1 h40 0 rfl rfl rfl FRef17.agg31 ?_
    refine Plan.storeA (f' := fun q => VU .u8 (m29 q)) h40 1 rfl rfl rfl rfl (fun _ _ => rfl) FRef17.sz31 rfl fun w42 h42 => ?_
    simp only [List.cons_append, List.nil_append, List.set_cons_zero, List.set_cons_succ] at h42
    refine Plan.nil ?_
    refine hK41 _ _ ?_; clear hK41
    refine W.ret (finR_ret ?_)
    have h43 := St.pickT (C := [_, _]) h42 [] (by decide)
    simp only [pick, List.filterMap_cons, List.filterMap_nil, List.getElem?_cons_zero, List.getElem?_cons_succ, List.cons_append, List.nil_append] at h43
    subst r
    refine RetOk.mk (.agg h42 rfl (.cons 1 rfl .nil) FRef17.agg31 .nil) ?_
    exact ⟨rfl, h43⟩

end Go.Proofs.YtjclppnbbpnfnaaDoor
