/-
  WALKS of the package's functions, printed by this session's own program (auto.py).
-/
import Derived.Test.YtjblfkmmbpcpaaaProg
import Derived.Test.YtjblfkmmbpcpaaaLx6
import Derived.Test.YtjblfkmmbpcpaaaRLaw06
namespace Go.Proofs.Ytjblfkmmbpcpaaa
set_option linter.unusedSimpArgs false
set_option linter.unusedVariables false
set_option linter.unusedSectionVars false
open Go Go.LW
theorem FLaw06.agg23 : aggT Try.prog 23 32 = true := by kernel_rfl
theorem FLaw06.arr23 : arrB Try.prog 23 32 1 = true := by kernel_rfl
theorem FLaw06.z23 : zeroIs Try.prog 23 [(32, fun _ => VU .u8 0#8)] := zeroIs_agg (by kernel_rfl)
theorem FLaw06.sz5 : szT Try.prog 5 1 = true := by kernel_rfl
theorem FLaw06.sz23 : szT Try.prog 23 32 = true := by kernel_rfl

set_option maxRecDepth 8000 in
set_option maxHeartbeats 1000000 in
theorem lethelaw06_prime_ok {B : Nat} {w0 w : World} {L : List Rg} {n_1 : BitVec 8} {r : (Nat → BitVec 8)} (hR : lethelaw06_prime n_1 r) (HST : St B w0 (L) w) :
    Calls Try.prog 10 #[VU .u8 n_1] w fun e w' => e = .returned (AG [(32, fun q => VU .u8 (r q))]) ∧ St B w0 (L) w' := by
  refine W.enter 16 Try.func10 rfl rfl rfl ?_
  unfold lethelaw06_prime at hR
  refine W.seq_k fun K2 hK2 => ?_
  refine W.regionT [(0, false)] (by kernel_rfl) ?_
  refine Plan.alloc HST rfl FLaw06.z23 PIn.nil fun b3 w3 hb3 h3 => ?_
  simp only [rngs, Nat.zero_add, Nat.reduceAdd, List.cons_append, List.nil_append] at h3
  refine Plan.nil ?_
  refine hK2 _ _ ?_; clear hK2
  refine W.seq_k fun K4 hK4 => ?_
  refine W.regionT [(0, true), (1, true), (2, true), (3, false), (4, false)] (by kernel_rfl) ?_
  refine Plan.move_int rfl rfl ?_
  refine Plan.subU .u8 (X := 237#8) (Y := n_1) rfl rfl rfl ?_
  refine Plan.buildArr (ps := [(32, fun q => VU .u8 ((upd (fun _ => 0#8) 0 ((237#8) - n_1)) q))]) FLaw06.arr23 FLaw06.z23 rfl rfl rfl ?_
  refine Plan.alloc h3 rfl FLaw06.z23 PIn.nil fun b5 w5 hb5 h5 => ?_
  simp only [rngs, Nat.zero_add, Nat.reduceAdd, List.cons_append, List.nil_append] at h5
  refine Plan.storeA (f' := fun q => VU .u8 ((upd (fun _ => 0#8) 0 ((237#8) - n_1)) q)) h5 0 rfl rfl rfl rfl (fun _ _ => rfl) FLaw06.sz23 rfl fun w6 h6 => ?_
  simp only [List.cons_append, List.nil_append, List.set_cons_zero, List.set_cons_succ] at h6
  refine Plan.nil ?_
  refine hK4 _ _ ?_; clear hK4
  refine W.seq_k fun K7 hK7 => ?_
  refine W.seq_k fun K8 hK8 => ?_
  refine W.regionT [(0, true)] (by kernel_rfl) ?_
  refine Plan.assign_int rfl rfl ?_
  refine Plan.nil ?_
  refine hK8 _ _ ?_; clear hK8
  obtain ⟨m23, hI24, hR024⟩ := hR
  refine W.cutN (fun e w => ∃ y_m23 : Nat → BitVec 8, m23 = y_m23 ∧ EnvHas e [(2, .pointer (some ⟨b3, 0, none⟩)), (3, .pointer (some ⟨b5, 0, none⟩))] ∧ St B w0 (⟨some b5, 0, 32, fun q => VU .u8 (y_m23 q), true⟩ :: ⟨some b3, 0, 32, fun q => VU .u8 ((fun _ => 0#8) q), true⟩ :: L) w) ?_ ?_
  ·
    refine W.block ?_
    refine W.iter hI24 (fun (s24 : (Nat × (Nat → BitVec 8))) e w => EnvHas e [(2, .pointer (some ⟨b3, 0, none⟩)), (3, .pointer (some ⟨b5, 0, none⟩)), (4, VN s24.1)] ∧ St B w0 (⟨some b5, 0, 32, fun q => VU .u8 (s24.2 q), true⟩ :: ⟨some b3, 0, 32, fun q => VU .u8 ((fun _ => 0#8) q), true⟩ :: L) w) ⟨(EnvHas.cons rfl (EnvHas.cons rfl (EnvHas.cons rfl EnvHas.nil))), h6⟩ ?_
    rintro ⟨i_21, m22⟩ o24 hR hx24 ev25 wl25 ⟨he25, h25⟩
    obtain ⟨ev25, rfl⟩ := he25.open
    unfold lethelaw06_prime_l0 at hR
    refine W.seq_k fun K26 hK26 => ?_
    refine W.seq_k fun K27 hK27 => ?_
    refine W.regionT [(0, true), (1, true)] (by kernel_rfl) ?_
    refine Plan.move_int rfl rfl ?_
    refine Plan.cmpP (a := (((i_21 : Nat) : Int) : Int)) (b := (32 : Int)) (p := i_21 < 32) rfl rfl rfl rfl icmp_ltN ?_
    refine Plan.nil ?_
    refine hK27 _ _ ?_; clear hK27
    by_cases hc28 : i_21 < 32
    ·
      replace hR := ifT hR hc28
      refine W.condT (congrArg Value.bool (decide_eq_true hc28)) ?_
      refine W.skip ?_
      refine hK26 _ _ ?_; clear hK26
      refine W.seq_k fun K29 hK29 => ?_
      refine W.block ?_
      refine W.regionT [(0, true), (1, true), (2, false)] (by kernel_rfl) ?_
      refine Plan.move_int rfl rfl ?_
      refine Plan.idxArr1 (j := i_21) FLaw06.arr23 rfl rfl rfl (by omega) ?_
      refine Plan.storeU (j := i_21) (X := 255#8) h25 0 rfl rfl rfl rfl (by omega) FLaw06.sz5 rfl fun w30 h30 => ?_
      simp only [List.cons_append, List.nil_append, List.set_cons_zero, List.set_cons_succ] at h30
      refine Plan.nil ?_
      refine blockR_norm ?_
      refine hK29 _ _ ?_; clear hK29
      refine W.regionT [(0, true), (1, true), (2, true)] (by kernel_rfl) ?_
      refine Plan.move_int rfl rfl ?_
      refine Plan.addN (a := i_21) (b := 1) rfl rfl rfl (by omega) ?_
      refine Plan.assign_int rfl rfl ?_
      refine Plan.nil ?_
      exact iterR_norm ⟨_, hR, (EnvHas.cons rfl (EnvHas.cons rfl (EnvHas.cons rfl EnvHas.nil))), h30⟩
    ·
      replace hR := ifF hR hc28
      refine W.condF (congrArg Value.bool (decide_eq_false hc28)) ?_
      refine W.exit (thenR_exit (iterR_exit (blockR_here ?_)))
      exact ⟨m22, (hx24 _ hR).symm, (EnvHas.cons rfl (EnvHas.cons rfl EnvHas.nil)), h25⟩
  ·
    rintro ev31 wl31 ⟨y_m23, hy31, he31, h31⟩
    obtain ⟨ev31, rfl⟩ := he31.open
    subst hy31
    replace hR := hR024
    refine hK7 _ _ ?_; clear hK7
    refine W.seq_k fun K32 hK32 => ?_
    refine W.regionT [(0, true), (1, false)] (by kernel_rfl) ?_
    refine Plan.idxArr1 (j := 31) FLaw06.arr23 rfl rfl rfl (by omega) ?_
    refine Plan.storeU (j := 31) (X := 127#8) h31 0 rfl rfl rfl rfl (by omega) FLaw06.sz5 rfl fun w33 h33 => ?_
    simp only [List.cons_append, List.nil_append, List.set_cons_zero, List.set_cons_succ] at h33
    refine Plan.nil ?_
    refine hK32 _ _ ?_; clear hK32
    refine W.seq_k fun K34 hK34 => ?_
    refine W.regionT [(0, true), (1, false)] (by kernel_rfl) ?_
    refine Plan.loadA1 h33 0 rfl rfl rfl FLaw06.agg23 ?_
    refine Plan.storeA (f' := fun q => VU .u8 ((upd m23 31 (127#8)) q)) h33 1 rfl rfl rfl rfl (fun _ _ => rfl) FLaw06.sz23 rfl fun w35 h35 => ?_
    simp only [List.cons_append, List.nil_append, List.set_cons_zero, List.set_cons_succ] at h35
    refine Plan.nil ?_
    refine hK34 _ _ ?_; clear hK34
    refine W.ret (finR_ret ?_)
    have h36 := St.pickT (C := [_, _]) h35 [] (by decide)
    simp only [pick, List.filterMap_cons, List.filterMap_nil, List.getElem?_cons_zero, List.getElem?_cons_succ, List.cons_append, List.nil_append] at h36
    subst r
    refine RetOk.mk (.agg h35 rfl (.cons 1 rfl .nil) FLaw06.agg23 .nil) ?_
    exact ⟨rfl, h36⟩

end Go.Proofs.Ytjblfkmmbpcpaaa
