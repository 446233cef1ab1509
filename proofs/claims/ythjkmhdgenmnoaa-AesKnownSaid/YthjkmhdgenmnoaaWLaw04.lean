/-
  WALKS of the package's functions, printed by this session's own program (auto.py).
-/
import Derived.Test.YthjkmhdgenmnoaaProg
import Derived.Test.YthjkmhdgenmnoaaLx3
import Derived.Test.YthjkmhdgenmnoaaRLaw04
import Derived.Test.YthjkmhdgenmnoaaWAes
namespace Go.Proofs.Ythjkmhdgenmnoaa
set_option linter.unusedSimpArgs false
set_option linter.unusedVariables false
set_option linter.unusedSectionVars false
open Go Go.LW
theorem FLaw04.u5 : Try.prog.underlying 5 = some (.int .u8) := by kernel_rfl
theorem FLaw04.arr26 : arrB Try.prog 26 32 1 = true := by kernel_rfl
theorem FLaw04.isl28 : ∃ el, Try.prog.underlying 28 = some (.slice el) := ⟨5, by kernel_rfl⟩
theorem FLaw04.sl28 : slB Try.prog 28 1 = true := by kernel_rfl
theorem FLaw04.call19 : callB Try.prog 19 = true := by kernel_rfl
theorem FLaw04.slu28 : Try.prog.underlying 28 = some (.slice 5) := by kernel_rfl
theorem FLaw04.str9 : Try.prog.underlying 9 = some .string := by kernel_rfl

set_option maxRecDepth 8000 in
set_option maxHeartbeats 1000000 in
theorem lethelaw04_of_ok {B : Nat} {w0 w : World} {L : List Rg} {key1 : Nat → BitVec 8} {r : Unit ⊕ ((Nat → BitVec 8) × (Nat → BitVec 8) × (Nat → BitVec 8) × (Nat → BitVec 8))} (hR : lethelaw04_of key1 r) (HST : St B w0 (L) w) :
    Calls Try.prog 11 #[AG [(32, fun q => VU .u8 (key1 q))]] w fun e w' => match r with | .inl z => e = .returned (.pointer none) ∧ St B w0 (L) w' | .inr z => ∃ b0 : Nat, e = .returned (.pointer (some ⟨b0, 0, none⟩)) ∧ St B w0 (⟨some b0, 0, 240, fun q => VU .u8 (z.1 q), true⟩ :: ⟨some b0, 240, 256, fun q => VU .u8 (z.2.1 q), true⟩ :: ⟨some b0, 496, 256, fun q => VU .u8 (z.2.2.1 q), true⟩ :: ⟨some b0, 752, 256, fun q => VU .u8 (z.2.2.2 q), true⟩ :: L) w' := by
  refine W.enter 13 Try.func11 rfl rfl rfl ?_
  unfold lethelaw04_of at hR
  refine W.seq_k fun K2 hK2 => ?_
  refine W.regionT [(0, false), (1, true)] (by kernel_rfl) ?_
  refine Plan.boxA HST rfl rfl PIn.nil fun b3 w3 hb3 h3 => ?_
  simp only [rngs, Nat.zero_add, Nat.reduceAdd, List.cons_append, List.nil_append] at h3
  refine Plan.assign_ptr rfl rfl ?_
  refine Plan.nil ?_
  refine hK2 _ _ ?_; clear hK2
  refine W.seq_k fun K4 hK4 => ?_
  refine W.regionT [(0, true), (1, false), (2, true), (3, true), (4, true), (5, true), (6, true)] (by kernel_rfl) ?_
  refine Plan.slArrO (lo := 0) (hi := 32) (m := 32) (c := 32) (o' := 0) FLaw04.arr26 rfl rfl rfl rfl (by omega) (by omega) (by omega) (by omega) ?_
  rcases hR with ⟨x_6, hr5, hR⟩ | ⟨x_7, x_8, x_9, x_10, x_11, hr5, hR⟩
  ·
    refine Plan.call (vs := [.slice (some ⟨b3, 0, none⟩) 32 32]) rfl FLaw04.call19 rfl (aes_New_ok (Bx.arr0 0 rfl (by omega) (by omega)) hr5 h3) ?_
    rintro _ w12 ⟨rfl, h12⟩
    refine ⟨_, rfl, .inl ⟨PIn.keep PIn.nil h12, ?_⟩⟩
    refine Plan.move_tuple rfl rfl ?_
    refine Plan.extract_ptr rfl rfl rfl ?_
    refine Plan.extract_int rfl rfl rfl ?_
    refine Plan.assign_ptr rfl rfl ?_
    refine Plan.assign_int rfl rfl ?_
    refine Plan.nil ?_
    refine hK4 _ _ ?_; clear hK4
    refine W.seq_k fun K13 hK13 => ?_
    refine W.seq_k fun K14 hK14 => ?_
    refine W.regionT [(0, true), (1, true)] (by kernel_rfl) ?_
    refine Plan.move_int rfl rfl ?_
    refine Plan.cmpP (a := (((x_6 : Nat) : Int) : Int)) (b := (0 : Int)) (p := x_6 ≠ 0) rfl rfl rfl rfl icmp_neN ?_
    refine Plan.nil ?_
    refine hK14 _ _ ?_; clear hK14
    by_cases hc15 : x_6 ≠ 0
    ·
      replace hR := ifT hR hc15
      refine W.condT (congrArg Value.bool (decide_eq_true hc15)) ?_
      refine W.seq_k fun K16 hK16 => ?_
      refine W.regionT [(0, true)] (by kernel_rfl) ?_
      refine Plan.assign_ptr rfl rfl ?_
      refine Plan.nil ?_
      refine hK16 _ _ ?_; clear hK16
      refine W.ret (thenR_ret (finR_ret ?_))
      have h17 := St.pickT (C := [_]) h12 [] (by decide)
      simp only [pick, List.filterMap_cons, List.filterMap_nil, List.getElem?_cons_zero, List.getElem?_cons_succ, List.cons_append, List.nil_append] at h17
      subst r
      refine RetOk.mk (.tmp_ptr rfl .nil) ?_
      exact ⟨rfl, h17⟩
    ·
      replace hR := ifF hR hc15
      refine W.condF (congrArg Value.bool (decide_eq_false hc15)) ?_
      refine W.skip ?_
      refine hK13 _ _ ?_; clear hK13
      refine W.seq_k fun K18 hK18 => ?_
      refine W.regionT [(0, true), (1, true)] (by kernel_rfl) ?_
      refine Plan.move_ptr rfl rfl ?_
      refine Plan.assign_ptr rfl rfl ?_
      refine Plan.nil ?_
      refine hK18 _ _ ?_; clear hK18
      refine W.ret (finR_ret ?_)
      have h19 := St.pickT (C := [_]) h12 [] (by decide)
      simp only [pick, List.filterMap_cons, List.filterMap_nil, List.getElem?_cons_zero, List.getElem?_cons_succ, List.cons_append, List.nil_append] at h19
      subst r
      refine RetOk.mk (.tmp_ptr rfl .nil) ?_
      exact ⟨rfl, h19⟩
  ·
    refine Plan.call (vs := [.slice (some ⟨b3, 0, none⟩) 32 32]) rfl FLaw04.call19 rfl (aes_New_ok (Bx.arr0 0 rfl (by omega) (by omega)) hr5 h3) ?_
    rintro _ w21 ⟨b0_20, rfl, h21⟩
    refine ⟨_, rfl, .inl ⟨PIn.keep PIn.nil h21, ?_⟩⟩
    refine Plan.move_tuple rfl rfl ?_
    refine Plan.extract_ptr rfl rfl rfl ?_
    refine Plan.extract_int rfl rfl rfl ?_
    refine Plan.assign_ptr rfl rfl ?_
    refine Plan.assign_int rfl rfl ?_
    refine Plan.nil ?_
    refine hK4 _ _ ?_; clear hK4
    refine W.seq_k fun K22 hK22 => ?_
    refine W.seq_k fun K23 hK23 => ?_
    refine W.regionT [(0, true), (1, true)] (by kernel_rfl) ?_
    refine Plan.move_int rfl rfl ?_
    refine Plan.cmpP (a := (((x_11 : Nat) : Int) : Int)) (b := (0 : Int)) (p := x_11 ≠ 0) rfl rfl rfl rfl icmp_neN ?_
    refine Plan.nil ?_
    refine hK23 _ _ ?_; clear hK23
    by_cases hc24 : x_11 ≠ 0
    ·
      replace hR := ifT hR hc24
      refine W.condT (congrArg Value.bool (decide_eq_true hc24)) ?_
      refine W.seq_k fun K25 hK25 => ?_
      refine W.regionT [(0, true)] (by kernel_rfl) ?_
      refine Plan.assign_ptr rfl rfl ?_
      refine Plan.nil ?_
      refine hK25 _ _ ?_; clear hK25
      refine W.ret (thenR_ret (finR_ret ?_))
      have h26 := St.pickT (C := [_, _, _, _, _]) h21 [] (by decide)
      simp only [pick, List.filterMap_cons, List.filterMap_nil, List.getElem?_cons_zero, List.getElem?_cons_succ, List.cons_append, List.nil_append] at h26
      subst r
      refine RetOk.mk (.tmp_ptr rfl .nil) ?_
      exact ⟨rfl, h26⟩
    ·
      replace hR := ifF hR hc24
      refine W.condF (congrArg Value.bool (decide_eq_false hc24)) ?_
      refine W.skip ?_
      refine hK22 _ _ ?_; clear hK22
      refine W.seq_k fun K27 hK27 => ?_
      refine W.regionT [(0, true), (1, true)] (by kernel_rfl) ?_
      refine Plan.move_ptr rfl rfl ?_
      refine Plan.assign_ptr rfl rfl ?_
      refine Plan.nil ?_
      refine hK27 _ _ ?_; clear hK27
      refine W.ret (finR_ret ?_)
      have h28 := St.pickT (C := [_, _, _, _, _]) h21 [0, 1, 2, 3] (by decide)
      simp only [pick, List.filterMap_cons, List.filterMap_nil, List.getElem?_cons_zero, List.getElem?_cons_succ, List.cons_append, List.nil_append] at h28
      subst r
      refine RetOk.mk (.tmp_ptr rfl .nil) ?_
      exact ⟨b0_20, rfl, h28⟩


set_option maxRecDepth 8000 in
set_option maxHeartbeats 1000000 in
theorem lethelaw04_short_ok {B : Nat} {w0 w : World} {L : List Rg} {b1 : List Byte} {ab1 : Option Addr} {nb1 cb1 ib1 : Nat} (hb1 : Bx L ib1 ab1 nb1 cb1 b1) {most2 : Int} {r : (List Byte)} (hR : lethelaw04_short b1 most2 r) (HST : St B w0 (L) w) :
    Calls Try.prog 12 #[.slice ab1 nb1 cb1, .int .i64 most2] w fun e w' => ∃ ay0 : Option Addr, ∃ ny0 : Nat, ∃ cy0 : Nat, e = .returned (.slice ay0 ny0 cy0) ∧ St B w0 (L) w' ∧ Bx L ib1 ay0 ny0 cy0 r := by
  refine W.enter 13 Try.func12 rfl rfl rfl ?_
  unfold lethelaw04_short at hR
  have eb1 := hb1.hl; subst eb1
  refine W.seq_k fun K3 hK3 => ?_
  refine W.regionT [(0, true)] (by kernel_rfl) ?_
  refine Plan.assign_slice rfl rfl ?_
  refine Plan.nil ?_
  refine hK3 _ _ ?_; clear hK3
  refine W.seq_k fun K4 hK4 => ?_
  refine W.seq_k fun K5 hK5 => ?_
  refine W.regionT [(0, true), (1, true), (2, true), (3, true)] (by kernel_rfl) ?_
  refine Plan.move_slice rfl rfl ?_
  refine Plan.len FLaw04.isl28 rfl rfl ?_
  refine Plan.move_int rfl rfl ?_
  refine Plan.cmpP (a := (((b1.length : Nat) : Int) : Int)) (b := (most2 : Int)) (p := most2 < ((b1.length : Nat) : Int)) rfl rfl rfl rfl icmp_gt ?_
  refine Plan.nil ?_
  refine hK5 _ _ ?_; clear hK5
  by_cases hc6 : most2 < ((b1.length : Nat) : Int)
  ·
    replace hR := ifT hR hc6
    refine W.condT (congrArg Value.bool (decide_eq_true hc6)) ?_
    refine W.seq_k fun K7 hK7 => ?_
    refine W.regionT [(0, true), (1, true), (2, true), (3, true)] (by kernel_rfl) ?_
    refine Plan.move_slice rfl rfl ?_
    refine Plan.move_int rfl rfl ?_
    obtain ⟨hc8, hR⟩ := hR
    obtain ⟨hc9, hR⟩ := hR
    refine Plan.slV (lo := 0) (hi := most2.toNat) hb1 FLaw04.sl28 rfl rfl rfl ⟨_, congrArg (Value.int .i64) (Int.toNat_of_nonneg hc8).symm⟩ hc9 fun a10 c10 hv10 => ?_
    refine Plan.assign_slice rfl rfl ?_
    refine Plan.nil ?_
    refine hK7 _ _ ?_; clear hK7
    refine W.ret (thenR_ret (finR_ret ?_))
    subst r
    refine RetOk.mk (.tmp_slice rfl .nil) ?_
    exact ⟨a10, (seg b1 0 most2.toNat).length, c10, rfl, HST, hv10⟩
  ·
    replace hR := ifF hR hc6
    refine W.condF (congrArg Value.bool (decide_eq_false hc6)) ?_
    refine W.skip ?_
    refine hK4 _ _ ?_; clear hK4
    refine W.seq_k fun K11 hK11 => ?_
    refine W.regionT [(0, true), (1, true)] (by kernel_rfl) ?_
    refine Plan.move_slice rfl rfl ?_
    refine Plan.assign_slice rfl rfl ?_
    refine Plan.nil ?_
    refine hK11 _ _ ?_; clear hK11
    refine W.ret (finR_ret ?_)
    subst r
    refine RetOk.mk (.tmp_slice rfl .nil) ?_
    exact ⟨ab1, b1.length, cb1, rfl, HST, hb1⟩


set_option maxRecDepth 8000 in
set_option maxHeartbeats 1000000 in
theorem lethelaw04_Eq_ok {B : Nat} {w0 w : World} {L : List Rg} {a1 : List Byte} {aa1 : Option Addr} {na1 ca1 ia1 : Nat} (ha1 : Bx L ia1 aa1 na1 ca1 a1) {b2 : List Byte} {ab2 : Option Addr} {nb2 cb2 ib2 : Nat} (hb2 : Bx L ib2 ab2 nb2 cb2 b2) {r : Bool} (hR : lethelaw04_Eq a1 b2 r) (HST : St B w0 (L) w) :
    Calls Try.prog 14 #[.slice aa1 na1 ca1, .slice ab2 nb2 cb2] w fun e w' => e = .returned (.bool r) ∧ St B w0 (L) w' := by
  refine W.enter 10 Try.func14 rfl rfl rfl ?_
  unfold lethelaw04_Eq at hR
  have ea1 := ha1.hl; subst ea1
  have eb2 := hb2.hl; subst eb2
  refine W.seq_k fun K3 hK3 => ?_
  refine W.regionT [(0, true)] (by kernel_rfl) ?_
  refine Plan.assign_bool rfl rfl ?_
  refine Plan.nil ?_
  refine hK3 _ _ ?_; clear hK3
  refine W.seq_k fun K4 hK4 => ?_
  refine W.regionT [(0, true), (1, true), (2, true), (3, true), (4, true), (5, true)] (by kernel_rfl) ?_
  refine Plan.move_slice rfl rfl ?_
  refine Plan.toStrV HST ha1 FLaw04.slu28 FLaw04.u5 FLaw04.str9 rfl rfl fun r5 hr5 => ?_
  refine Plan.move_slice rfl rfl ?_
  refine Plan.toStrV HST hb2 FLaw04.slu28 FLaw04.u5 FLaw04.str9 rfl rfl fun r6 hr6 => ?_
  refine Plan.eqStrV (v := decide (a1 = b2)) rfl rfl rfl rfl ?_
  refine Plan.assign_bool rfl rfl ?_
  refine Plan.nil ?_
  refine hK4 _ _ ?_; clear hK4
  refine W.ret (finR_ret ?_)
  subst r
  refine RetOk.mk (.tmp_bool rfl .nil) ?_
  exact ⟨rfl, HST⟩

end Go.Proofs.Ythjkmhdgenmnoaa
