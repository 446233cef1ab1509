/-
  WALKS of the package's functions, printed by this session's own program (auto.py).
-/
import Derived.Test.YtbkgblhmlenocaaProg
import Derived.Test.YtbkgblhmlenocaaEd
import Derived.Test.YtbkgblhmlenocaaRRef15
import Derived.Test.YtbkgblhmlenocaaEls
namespace Go.Proofs.Ytbkgblhmlenocaa
set_option linter.unusedSimpArgs false
set_option linter.unusedVariables false
set_option linter.unusedSectionVars false
open Go Go.LW
theorem FRef15.pl152 : placesB Try.prog 152 [(0, 1), (1, 1)] = true := by kernel_rfl
theorem FRef15.z152 : zeroIs Try.prog 152 [(1, fun _ => .slice none 0 0), (1, fun _ => .int .i64 0)] := zeroIs_agg (by kernel_rfl)
theorem FRef15.call51 : callB Try.prog 51 = true := by kernel_rfl
theorem FRef15.pl81 : placesB Try.prog 81 [(0, 1), (1, 1), (2, 32)] = true := by kernel_rfl
theorem FRef15.z81 : zeroIs Try.prog 81 [(1, fun _ => VU .u32 0#32), (1, fun _ => VU .u32 0#32), (32, fun _ => VU .u8 0#8)] := zeroIs_agg (by kernel_rfl)
theorem FRef15.sz81 : szT Try.prog 81 34 = true := by kernel_rfl
theorem FRef15.mixed : Try.prog.follows .mixedOrders = true := by kernel_rfl
theorem FRef15.agg81 : aggT Try.prog 81 34 = true := by kernel_rfl
theorem FRef15.slu78 : Try.prog.underlying 78 = some (.slice 81) := by kernel_rfl
theorem FRef15.el78 : elD Try.prog 78 = some (34, 40, some (AG [(1, fun _ => VU .u32 0#32), (1, fun _ => VU .u32 0#32), (32, fun _ => VU .u8 0#8)])) := by kernel_rfl
theorem FRef15.zv81 : (Try.prog.info? 81).bind (·.zero) = some (AG [(1, fun _ => VU .u32 0#32), (1, fun _ => VU .u32 0#32), (32, fun _ => VU .u8 0#8)]) := by kernel_rfl
theorem FRef15.isl78 : ∃ el, Try.prog.underlying 78 = some (.slice el) := ⟨81, by kernel_rfl⟩
theorem FRef15.sl78 : slB Try.prog 78 34 = true := by kernel_rfl
theorem FRef15.fld81_0 : fieldB Try.prog 81 0 0 = true := by kernel_rfl
theorem FRef15.sc73 : scalarT Try.prog 73 = true := by kernel_rfl
theorem FRef15.fld81_1 : fieldB Try.prog 81 1 1 = true := by kernel_rfl
theorem FRef15.fld81_2 : fieldB Try.prog 81 2 2 = true := by kernel_rfl
theorem FRef15.agg71 : aggT Try.prog 71 32 = true := by kernel_rfl
theorem FRef15.sc3 : scalarT Try.prog 3 = true := by kernel_rfl
theorem FRef15.call78 : callB Try.prog 78 = true := by kernel_rfl
theorem FRef15.fld152_0 : fieldB Try.prog 152 0 0 = true := by kernel_rfl
theorem FRef15.sc78 : scalarT Try.prog 78 = true := by kernel_rfl
theorem FRef15.sz78 : szT Try.prog 78 1 = true := by kernel_rfl
theorem FRef15.sz71 : szT Try.prog 71 32 = true := by kernel_rfl
theorem FRef15.z71 : zeroIs Try.prog 71 [(32, fun _ => VU .u8 0#8)] := zeroIs_agg (by kernel_rfl)
theorem FRef15.isl66 : ∃ el, Try.prog.underlying 66 = some (.slice el) := ⟨71, by kernel_rfl⟩
theorem FRef15.sl66 : slB Try.prog 66 32 = true := by kernel_rfl
theorem FRef15.some73 : (Try.prog.underlying 73).isSome = true := by kernel_rfl
theorem FRef15.some3 : (Try.prog.underlying 3).isSome = true := by kernel_rfl
theorem FRef15.u73 : Try.prog.underlying 73 = some (.int .u32) := by kernel_rfl
theorem FRef15.u3 : Try.prog.underlying 3 = some (.int .i64) := by kernel_rfl
theorem FRef15.call98 : callB Try.prog 98 = true := by kernel_rfl
theorem FRef15.fld152_1 : fieldB Try.prog 152 1 1 = true := by kernel_rfl
theorem FRef15.call99 : callB Try.prog 99 = true := by kernel_rfl
theorem FRef15.row71 : rowB Try.prog 71 = true := by kernel_rfl

set_option maxRecDepth 8000 in
set_option maxHeartbeats 1000000 in
theorem letheref15_New_ok {B : Nat} {w0 : Base} {w : World} {L : List Rg} {most1 : Int} {r : Nat ⊕ ((List ((BitVec 32) × (BitVec 32) × (Nat → BitVec 8))) × Int × Nat)} (hR : letheref15_New most1 r) (HST : St B w0 (L) w) :
    Calls Try.prog 51 #[.int .i64 most1] w fun e w' => match r with | .inl z => e = .returned (.tuple #[.pointer none, VN z]) ∧ St B w0 (L) w' | .inr z => ∃ b0 : Nat, ∃ aw0_0 : Option Addr, ∃ pw0_0 : Option Nat, ∃ nw0_0 : Nat, ∃ cw0_0 : Nat, ∃ Fw0_0 : Nat → Value, e = .returned (.tuple #[.pointer (some ⟨b0, 0, none⟩), VN z.2.2]) ∧ St B w0 (⟨some b0, 0, 1, fun _ => .slice aw0_0 nw0_0 cw0_0, true⟩ :: ⟨pw0_0, 0, cw0_0 * 34, Fw0_0, true⟩ :: ⟨some b0, 1, 1, fun _ => .int .i64 z.2.1, true⟩ :: L) w' ∧ LO D81 [] aw0_0 pw0_0 nw0_0 cw0_0 Fw0_0 z.1 := by
  refine W.enter 13 Try.func51 rfl rfl rfl ?_
  unfold letheref15_New at hR
  refine W.seq_k fun K2 hK2 => ?_
  refine W.regionT [(0, true), (1, true)] (by kernel_rfl) ?_
  refine Plan.assign_ptr rfl rfl ?_
  refine Plan.assign_int rfl rfl ?_
  refine Plan.nil ?_
  refine hK2 _ _ ?_; clear hK2
  refine W.seq_k fun K3 hK3 => ?_
  refine W.seq_k fun K9 hK9 => ?_
  refine W.regionT [(0, true), (1, true), (2, true), (3, true), (4, true), (5, true)] (by kernel_rfl) ?_
  refine Plan.move_int rfl rfl ?_
  by_cases hc10 : most1 < 0
  ·
    replace hR := ifT hR hc10
    refine Plan.cmpV (a := (most1 : Int)) (b := (0 : Int)) (p := most1 < 0) (v := true) rfl rfl rfl rfl icmp_lt (decide_eq_true hc10) ?_
    refine Plan.move_bool rfl rfl ?_
    refine Plan.passed rfl ?_
    refine Plan.passed rfl ?_
    refine Plan.pickTb rfl rfl rfl ?_
    refine Plan.nil ?_
    refine hK9 _ _ ?_; clear hK9
    refine W.condT rfl ?_
    refine W.seq_k fun K11 hK11 => ?_
    refine W.regionT [(0, true), (1, true)] (by kernel_rfl) ?_
    refine Plan.assign_ptr rfl rfl ?_
    refine Plan.assign_int rfl rfl ?_
    refine Plan.nil ?_
    refine hK11 _ _ ?_; clear hK11
    refine W.ret (thenR_ret (finR_ret ?_))
    subst r
    refine RetOk.mk (.tmp_ptr rfl (.tmp_int rfl .nil)) ?_
    exact ⟨rfl, HST⟩
  ·
    replace hR := ifF hR hc10
    refine Plan.cmpV (a := (most1 : Int)) (b := (0 : Int)) (p := most1 < 0) (v := false) rfl rfl rfl rfl icmp_lt (decide_eq_false hc10) ?_
    refine Plan.move_bool rfl rfl ?_
    refine Plan.move_int rfl rfl ?_
    refine Plan.cmpP (a := (most1 : Int)) (b := (256 : Int)) (p := 256 < most1) rfl rfl rfl rfl icmp_gt ?_
    refine Plan.pickFb rfl rfl rfl ?_
    refine Plan.nil ?_
    refine hK9 _ _ ?_; clear hK9
    by_cases hc12 : 256 < most1
    ·
      replace hR := ifT hR hc12
      refine W.condT (congrArg Value.bool (decide_eq_true hc12)) ?_
      refine W.seq_k fun K13 hK13 => ?_
      refine W.regionT [(0, true), (1, true)] (by kernel_rfl) ?_
      refine Plan.assign_ptr rfl rfl ?_
      refine Plan.assign_int rfl rfl ?_
      refine Plan.nil ?_
      refine hK13 _ _ ?_; clear hK13
      refine W.ret (thenR_ret (finR_ret ?_))
      subst r
      refine RetOk.mk (.tmp_ptr rfl (.tmp_int rfl .nil)) ?_
      exact ⟨rfl, HST⟩
    ·
      replace hR := ifF hR hc12
      refine W.condF (congrArg Value.bool (decide_eq_false hc12)) ?_
      refine W.skip ?_
      refine hK3 _ _ ?_; clear hK3
      refine W.seq_k fun K14 hK14 => ?_
      refine W.regionT [(0, true), (1, true), (2, false), (3, true), (4, true)] (by kernel_rfl) ?_
      refine Plan.move_int rfl rfl ?_
      refine Plan.buildP (ps := [(1, fun _ => .slice none 0 0), (1, fun _ => .int .i64 most1)]) FRef15.pl152 (by decide) FRef15.z152 rfl rfl (.one [(1, fun _ => .slice none 0 0)] [] (fun _ => VN 0) rfl rfl .nil) ?_
      refine Plan.boxA HST rfl rfl PIn.nil fun b15 w15 hb15 h15 => ?_
      simp only [rngs, Nat.zero_add, Nat.reduceAdd, List.cons_append, List.nil_append] at h15
      refine Plan.assign_ptr rfl rfl ?_
      refine Plan.assign_int rfl rfl ?_
      refine Plan.nil ?_
      refine hK14 _ _ ?_; clear hK14
      refine W.ret (finR_ret ?_)
      have h16 : St B w0 (⟨none, 0, 0 * 34, fun _ => undef, true⟩ :: _) _ := h15.nilE (fun _ => undef)
      have h17 := St.pickT (C := [_, _, _]) h16 [1, 0, 2] (by decide)
      simp only [pick, List.filterMap_cons, List.filterMap_nil, List.getElem?_cons_zero, List.getElem?_cons_succ, List.cons_append, List.nil_append] at h17
      subst r
      refine RetOk.mk (.tmp_ptr rfl (.tmp_int rfl .nil)) ?_
      exact ⟨b15, none, none, 0, 0, (fun _ => undef), rfl, h17, LO.nil⟩


set_option maxRecDepth 8000 in
set_option maxHeartbeats 1000000 in
theorem letheref15_ahead_ok {B : Nat} {w0 : Base} {w : World} {L : List Rg} {aTurn1 : BitVec 32} {aN2 : BitVec 32} {aKey3 : Nat → BitVec 8} {bTurn4 : BitVec 32} {bN5 : BitVec 32} {bKey6 : Nat → BitVec 8} {r : Bool} (hR : letheref15_ahead aTurn1 aN2 aKey3 bTurn4 bN5 bKey6 r) (HST : St B w0 (L) w) :
    Calls Try.prog 78 #[AG [(1, fun _ => VU .u32 aTurn1), (1, fun _ => VU .u32 aN2), (32, fun q => VU .u8 (aKey3 q))], AG [(1, fun _ => VU .u32 bTurn4), (1, fun _ => VU .u32 bN5), (32, fun q => VU .u8 (bKey6 q))]] w fun e w' => e = .returned (.bool r) ∧ St B w0 (L) w' := by
  refine W.enter 24 Try.func78 rfl rfl rfl ?_
  unfold letheref15_ahead at hR
  refine W.seq_k fun K7 hK7 => ?_
  refine W.regionT [(0, false), (1, false), (2, true)] (by kernel_rfl) ?_
  refine Plan.boxA HST rfl rfl PIn.nil fun b8 w8 hb8 h8 => ?_
  simp only [rngs, Nat.zero_add, Nat.reduceAdd, List.cons_append, List.nil_append] at h8
  refine Plan.boxA h8 rfl rfl PIn.nil fun b9 w9 hb9 h9 => ?_
  simp only [rngs, Nat.zero_add, Nat.reduceAdd, List.cons_append, List.nil_append] at h9
  refine Plan.assign_bool rfl rfl ?_
  refine Plan.nil ?_
  refine hK7 _ _ ?_; clear hK7
  refine W.seq_k fun K10 hK10 => ?_
  refine W.regionT [(0, true), (1, true), (2, true), (3, true), (4, true), (5, true), (6, true), (7, true), (8, true), (9, true), (10, true), (11, true), (12, true), (13, true), (14, true), (15, true), (16, true), (17, true), (18, true), (19, true)] (by kernel_rfl) ?_
  refine Plan.fieldAddr0 FRef15.fld81_0 rfl rfl ?_
  refine Plan.load0 h9 3 rfl rfl rfl (by omega) FRef15.sc73 ?_
  refine Plan.fieldAddr0 FRef15.fld81_0 rfl rfl ?_
  refine Plan.load0 h9 0 rfl rfl rfl (by omega) FRef15.sc73 ?_
  by_cases hc11 : aTurn1.toNat < bTurn4.toNat
  ·
    replace hR := ifT hR hc11
    refine Plan.cmpV (a := (aTurn1.toNat : Int)) (b := (bTurn4.toNat : Int)) (p := aTurn1.toNat < bTurn4.toNat) (v := true) rfl rfl rfl rfl icmp_ltN (decide_eq_true hc11) ?_
    refine Plan.move_bool rfl rfl ?_
    refine Plan.passed rfl ?_
    refine Plan.passed rfl ?_
    refine Plan.passed rfl ?_
    refine Plan.passed rfl ?_
    refine Plan.passed rfl ?_
    refine Plan.passed rfl ?_
    refine Plan.passed rfl ?_
    refine Plan.passed rfl ?_
    refine Plan.passed rfl ?_
    refine Plan.passed rfl ?_
    refine Plan.passed rfl ?_
    refine Plan.passed rfl ?_
    refine Plan.pickTb rfl rfl rfl ?_
    refine Plan.assign_bool rfl rfl ?_
    refine Plan.nil ?_
    refine hK10 _ _ ?_; clear hK10
    refine W.ret (finR_ret ?_)
    have h12 := St.pickT (C := [_, _, _, _, _, _]) h9 [] (by decide)
    simp only [pick, List.filterMap_cons, List.filterMap_nil, List.getElem?_cons_zero, List.getElem?_cons_succ, List.cons_append, List.nil_append] at h12
    subst r
    refine RetOk.mk (.tmp_bool rfl .nil) ?_
    exact ⟨rfl, h12⟩
  ·
    replace hR := ifF hR hc11
    refine Plan.cmpV (a := (aTurn1.toNat : Int)) (b := (bTurn4.toNat : Int)) (p := aTurn1.toNat < bTurn4.toNat) (v := false) rfl rfl rfl rfl icmp_ltN (decide_eq_false hc11) ?_
    refine Plan.move_bool rfl rfl ?_
    refine Plan.fieldAddr0 FRef15.fld81_0 rfl rfl ?_
    refine Plan.load0 h9 3 rfl rfl rfl (by omega) FRef15.sc73 ?_
    refine Plan.fieldAddr0 FRef15.fld81_0 rfl rfl ?_
    refine Plan.load0 h9 0 rfl rfl rfl (by omega) FRef15.sc73 ?_
    by_cases hc13 : aTurn1 = bTurn4
    ·
      replace hR := ifT hR hc13
      refine Plan.cmpV (a := (aTurn1.toNat : Int)) (b := (bTurn4.toNat : Int)) (p := aTurn1 = bTurn4) (v := true) rfl rfl rfl rfl icmp_eqU (decide_eq_true hc13) ?_
      refine Plan.move_bool rfl rfl ?_
      refine Plan.fieldAddr 1 FRef15.fld81_1 rfl rfl ?_
      refine Plan.load0 h9 4 rfl rfl rfl (by omega) FRef15.sc73 ?_
      refine Plan.fieldAddr 1 FRef15.fld81_1 rfl rfl ?_
      refine Plan.load0 h9 1 rfl rfl rfl (by omega) FRef15.sc73 ?_
      refine Plan.cmpP (a := (aN2.toNat : Int)) (b := (bN5.toNat : Int)) (p := aN2.toNat < bN5.toNat) rfl rfl rfl rfl icmp_ltN ?_
      refine Plan.pickTb rfl rfl rfl ?_
      refine Plan.pickFb rfl rfl rfl ?_
      refine Plan.assign_bool rfl rfl ?_
      refine Plan.nil ?_
      refine hK10 _ _ ?_; clear hK10
      refine W.ret (finR_ret ?_)
      have h14 := St.pickT (C := [_, _, _, _, _, _]) h9 [] (by decide)
      simp only [pick, List.filterMap_cons, List.filterMap_nil, List.getElem?_cons_zero, List.getElem?_cons_succ, List.cons_append, List.nil_append] at h14
      subst r
      refine RetOk.mk (.tmp_bool rfl .nil) ?_
      exact ⟨rfl, h14⟩
    ·
      replace hR := ifF hR hc13
      refine Plan.cmpV (a := (aTurn1.toNat : Int)) (b := (bTurn4.toNat : Int)) (p := aTurn1 = bTurn4) (v := false) rfl rfl rfl rfl icmp_eqU (decide_eq_false hc13) ?_
      refine Plan.move_bool rfl rfl ?_
      refine Plan.passed rfl ?_
      refine Plan.passed rfl ?_
      refine Plan.passed rfl ?_
      refine Plan.passed rfl ?_
      refine Plan.passed rfl ?_
      refine Plan.pickFb rfl rfl rfl ?_
      refine Plan.pickFb rfl rfl rfl ?_
      refine Plan.assign_bool rfl rfl ?_
      refine Plan.nil ?_
      refine hK10 _ _ ?_; clear hK10
      refine W.ret (finR_ret ?_)
      have h15 := St.pickT (C := [_, _, _, _, _, _]) h9 [] (by decide)
      simp only [pick, List.filterMap_cons, List.filterMap_nil, List.getElem?_cons_zero, List.getElem?_cons_succ, List.cons_append, List.nil_append] at h15
      subst r
      refine RetOk.mk (.tmp_bool rfl .nil) ?_
      exact ⟨rfl, h15⟩


set_option maxRecDepth 8000 in
set_option maxHeartbeats 1000000 in
theorem letheref15_Load_ok {B : Nat} {w0 : Base} {w : World} {L : List Rg} {most1 : Int} {list2 : List ((BitVec 32) × (BitVec 32) × (Nat → BitVec 8))} {alist2 : Option Addr} {nlist2 clist2 ilist2 : Nat} (hlist2 : LV D81 L ilist2 alist2 nlist2 clist2 list2) {r : Nat ⊕ ((List ((BitVec 32) × (BitVec 32) × (Nat → BitVec 8))) × Int × Nat)} (hR : letheref15_Load most1 list2 r) (HST : St B w0 (L) w) :
    Calls Try.prog 53 #[.int .i64 most1, .slice alist2 nlist2 clist2] w fun e w' => match r with | .inl z => e = .returned (.tuple #[.pointer none, VN z]) ∧ St B w0 (L) w' | .inr z => ∃ b0 : Nat, ∃ aw0_0 : Option Addr, ∃ pw0_0 : Option Nat, ∃ nw0_0 : Nat, ∃ cw0_0 : Nat, ∃ Fw0_0 : Nat → Value, e = .returned (.tuple #[.pointer (some ⟨b0, 0, none⟩), VN z.2.2]) ∧ St B w0 (⟨some b0, 0, 1, fun _ => .slice aw0_0 nw0_0 cw0_0, true⟩ :: ⟨pw0_0, 0, cw0_0 * 34, Fw0_0, true⟩ :: ⟨some b0, 1, 1, fun _ => .int .i64 z.2.1, true⟩ :: L) w' ∧ LO D81 [] aw0_0 pw0_0 nw0_0 cw0_0 Fw0_0 z.1 := by
  refine W.enter 48 Try.func53 rfl rfl rfl ?_
  unfold letheref15_Load at hR
  have elist2 := hlist2.hl; subst elist2
  refine W.seq_k fun K3 hK3 => ?_
  refine W.regionT [(0, true), (1, true)] (by kernel_rfl) ?_
  refine Plan.assign_ptr rfl rfl ?_
  refine Plan.assign_int rfl rfl ?_
  refine Plan.nil ?_
  refine hK3 _ _ ?_; clear hK3
  refine W.seq_k fun K4 hK4 => ?_
  refine W.regionT [(0, true), (1, false), (2, true), (3, true), (4, true), (5, true), (6, true)] (by kernel_rfl) ?_
  refine Plan.move_int rfl rfl ?_
  rcases hR with ⟨x_6, hr5, hR⟩ | ⟨x_7, x_8, x_9, hr5, hR⟩
  ·
    refine Plan.call (vs := [.int .i64 most1]) rfl FRef15.call51 rfl (letheref15_New_ok  hr5 HST) ?_
    rintro _ w10 ⟨rfl, h10⟩
    refine ⟨_, rfl, .inl ⟨PIn.keep (by exact PIn.nil) h10, ?_⟩⟩
    refine Plan.move_tuple rfl rfl ?_
    refine Plan.extract_ptr rfl rfl rfl ?_
    refine Plan.extract_int rfl rfl rfl ?_
    refine Plan.assign_ptr rfl rfl ?_
    refine Plan.assign_int rfl rfl ?_
    refine Plan.nil ?_
    refine hK4 _ _ ?_; clear hK4
    refine W.seq_k fun K11 hK11 => ?_
    refine W.seq_k fun K12 hK12 => ?_
    refine W.regionT [(0, true), (1, true)] (by kernel_rfl) ?_
    refine Plan.move_int rfl rfl ?_
    refine Plan.cmpP (a := (((x_6 : Nat) : Int) : Int)) (b := (0 : Int)) (p := x_6 ≠ 0) rfl rfl rfl rfl icmp_neN ?_
    refine Plan.nil ?_
    refine hK12 _ _ ?_; clear hK12
    by_cases hc13 : x_6 ≠ 0
    ·
      replace hR := ifT hR hc13
      refine W.condT (congrArg Value.bool (decide_eq_true hc13)) ?_
      refine W.seq_k fun K14 hK14 => ?_
      refine W.regionT [(0, true), (1, true), (2, true)] (by kernel_rfl) ?_
      refine Plan.move_int rfl rfl ?_
      refine Plan.assign_ptr rfl rfl ?_
      refine Plan.assign_int rfl rfl ?_
      refine Plan.nil ?_
      refine hK14 _ _ ?_; clear hK14
      refine W.ret (thenR_ret (finR_ret ?_))
      subst r
      refine RetOk.mk (.tmp_ptr rfl (.tmp_int rfl .nil)) ?_
      exact ⟨rfl, h10⟩
    ·
      replace hR := ifF hR hc13
      refine W.condF (congrArg Value.bool (decide_eq_false hc13)) ?_
      refine W.skip ?_
      refine hK11 _ _ ?_; clear hK11
      refine W.seq_k fun K15 hK15 => ?_
      refine W.seq_k fun K16 hK16 => ?_
      refine W.regionT [(0, true), (1, true), (2, true), (3, true)] (by kernel_rfl) ?_
      refine Plan.move_slice rfl rfl ?_
      refine Plan.len FRef15.isl78 rfl rfl ?_
      refine Plan.move_int rfl rfl ?_
      refine Plan.cmpP (a := (((list2.length : Nat) : Int) : Int)) (b := (most1 : Int)) (p := most1 < ((list2.length : Nat) : Int)) rfl rfl rfl rfl icmp_gt ?_
      refine Plan.nil ?_
      refine hK16 _ _ ?_; clear hK16
      by_cases hc17 : most1 < ((list2.length : Nat) : Int)
      ·
        replace hR := ifT hR hc17
        refine W.condT (congrArg Value.bool (decide_eq_true hc17)) ?_
        refine W.seq_k fun K18 hK18 => ?_
        refine W.regionT [(0, true), (1, true)] (by kernel_rfl) ?_
        refine Plan.assign_ptr rfl rfl ?_
        refine Plan.assign_int rfl rfl ?_
        refine Plan.nil ?_
        refine hK18 _ _ ?_; clear hK18
        refine W.ret (thenR_ret (finR_ret ?_))
        subst r
        refine RetOk.mk (.tmp_ptr rfl (.tmp_int rfl .nil)) ?_
        exact ⟨rfl, h10⟩
      ·
        replace hR := ifF hR hc17
        refine W.condF (congrArg Value.bool (decide_eq_false hc17)) ?_
        refine W.skip ?_
        refine hK15 _ _ ?_; clear hK15
        refine W.seq_k fun K19 hK19 => ?_
        refine W.seq_k fun K20 hK20 => ?_
        refine W.regionT [(0, true)] (by kernel_rfl) ?_
        refine Plan.assign_int rfl rfl ?_
        refine Plan.nil ?_
        refine hK20 _ _ ?_; clear hK20
        obtain ⟨x55, hI55, hR055⟩ := hR
        refine W.cutN (fun e w => x55 = some () ∧ EnvHas e [(1, .slice alist2 list2.length clist2), (6, .pointer none)] ∧ St B w0 (L) w) ?_ ?_
        ·
          refine W.block ?_
          refine W.iter hI55 (fun (s55 : Nat) e w => EnvHas e [(1, .slice alist2 list2.length clist2), (6, .pointer none), (8, VN s55)] ∧ St B w0 (L) w) ⟨(EnvHas.cons rfl (EnvHas.cons rfl (EnvHas.cons rfl EnvHas.nil))), h10⟩ ?_
          rintro i_54 o55 hR hx55 ev56 wl56 ⟨he56, h56⟩
          obtain ⟨ev56, rfl⟩ := he56.open
          unfold letheref15_Load_l0 at hR
          refine W.seq_k fun K57 hK57 => ?_
          refine W.seq_k fun K58 hK58 => ?_
          refine W.regionT [(0, true), (1, true), (2, true), (3, true)] (by kernel_rfl) ?_
          refine Plan.move_int rfl rfl ?_
          refine Plan.move_slice rfl rfl ?_
          refine Plan.len FRef15.isl78 rfl rfl ?_
          refine Plan.cmpP (a := (((i_54 : Nat) : Int) : Int)) (b := (((list2.length : Nat) : Int) : Int)) (p := i_54 < list2.length) rfl rfl rfl rfl icmp_ltN ?_
          refine Plan.nil ?_
          refine hK58 _ _ ?_; clear hK58
          by_cases hc59 : i_54 < list2.length
          ·
            replace hR := ifT hR hc59
            refine W.condT (congrArg Value.bool (decide_eq_true hc59)) ?_
            refine W.skip ?_
            refine hK57 _ _ ?_; clear hK57
            refine W.seq_k fun K60 hK60 => ?_
            refine W.block ?_
            refine W.seq_k fun K61 hK61 => ?_
            refine W.regionD FRef15.mixed [(0, true), (1, true), (2, true), (3, true), (4, true), (5, true), (6, true), (7, true), (8, true), (9, false), (10, true)] (by kernel_rfl) ?_
            have h62 := h56.drew
            refine Plan.move_slice rfl rfl ?_
            refine Plan.move_int rfl rfl ?_
            obtain ⟨hc63, hR⟩ := hR
            refine Plan.subI (a := ((i_54 : Nat) : Int)) (b := 1) rfl rfl rfl (by omega) ?_
            obtain ⟨hc64, hR⟩ := hR
            refine Plan.idxLVS (D := D81) (j := (((i_54 : Nat) : Int) - 1).toNat) h62 hlist2 FRef15.sl78 rfl rfl (congrArg (Value.int .i64) (Int.toNat_of_nonneg hc64.1).symm) (toNat_lt hc64.1 hc64.2) ?_
            refine Plan.loadLV (D := D81) (X := list2) (j := (((i_54 : Nat) : Int) - 1).toNat) (sz := 34) h62 (0#32, 0#32, (fun _ => 0#8)) hlist2 rfl rfl (toNat_lt hc64.1 hc64.2) rfl FRef15.agg81 fun b65 r65 hs65 hr65 => ?_
            refine Plan.move_slice rfl rfl ?_
            refine Plan.move_int rfl rfl ?_
            obtain ⟨hc66, hR⟩ := hR
            refine Plan.idxLVS (D := D81) (j := i_54) h62 hlist2 FRef15.sl78 rfl rfl rfl hc66 ?_
            refine Plan.loadLV (D := D81) (X := list2) (j := i_54) (sz := 34) h62 (0#32, 0#32, (fun _ => 0#8)) hlist2 rfl rfl hc66 rfl FRef15.agg81 fun b67 r67 hs67 hr67 => ?_
            obtain ⟨x_69, hr68, hR⟩ := hR
            refine Plan.call (vs := [AG [(1, fun _ => VU .u32 ((list2.getD ((((i_54 : Nat) : Int) - 1).toNat) (0#32, 0#32, (fun _ => 0#8))).1)), (1, fun _ => VU .u32 ((list2.getD ((((i_54 : Nat) : Int) - 1).toNat) (0#32, 0#32, (fun _ => 0#8))).2.1)), (32, fun q => VU .u8 (((list2.getD ((((i_54 : Nat) : Int) - 1).toNat) (0#32, 0#32, (fun _ => 0#8))).2.2) q))], AG [(1, fun _ => VU .u32 ((list2.getD i_54 (0#32, 0#32, (fun _ => 0#8))).1)), (1, fun _ => VU .u32 ((list2.getD i_54 (0#32, 0#32, (fun _ => 0#8))).2.1)), (32, fun q => VU .u8 (((list2.getD i_54 (0#32, 0#32, (fun _ => 0#8))).2.2) q))]]) rfl FRef15.call78 rfl (letheref15_ahead_ok  hr68 h62) ?_
            rintro _ w70 ⟨rfl, h70⟩
            refine ⟨_, rfl, .inr ⟨rfl, ?_⟩⟩
            refine Plan.not rfl rfl ?_
            refine Plan.nil ?_
            refine hK61 _ _ ?_; clear hK61
            by_cases hc71 : x_69 = true
            ·
              replace hR := ifT hR hc71
              refine W.condF (congrArg Value.bool (congrArg Bool.not hc71)) ?_
              refine W.skip ?_
              refine blockR_norm ?_
              refine hK60 _ _ ?_; clear hK60
              refine W.regionT [(0, true), (1, true), (2, true)] (by kernel_rfl) ?_
              refine Plan.move_int rfl rfl ?_
              obtain ⟨hc72, hR⟩ := hR
              refine Plan.addN (a := i_54) (b := 1) rfl rfl rfl (by omega) ?_
              refine Plan.assign_int rfl rfl ?_
              refine Plan.nil ?_
              exact iterR_norm ⟨_, hR, (EnvHas.cons rfl (EnvHas.cons rfl (EnvHas.cons rfl EnvHas.nil))), h70⟩
            ·
              replace hR := ifF hR hc71
              refine W.condT (congrArg Value.bool (congrArg Bool.not (Bool.eq_false_iff.2 hc71))) ?_
              refine W.seq_k fun K73 hK73 => ?_
              refine W.regionT [(0, true), (1, true)] (by kernel_rfl) ?_
              refine Plan.assign_ptr rfl rfl ?_
              refine Plan.assign_int rfl rfl ?_
              refine Plan.nil ?_
              refine hK73 _ _ ?_; clear hK73
              refine W.ret (blockR_ret (thenR_ret (iterR_ret (blockR_ret (thenR_ret (thenR_ret (finR_ret ?_)))))))
              replace hR := hR.2
              subst r
              refine RetOk.mk (.tmp_ptr rfl (.tmp_int rfl .nil)) ?_
              exact ⟨rfl, h70⟩
          ·
            replace hR := ifF hR hc59
            refine W.condF (congrArg Value.bool (decide_eq_false hc59)) ?_
            refine W.exit (thenR_exit (iterR_exit (blockR_here ?_)))
            exact ⟨(hx55 _ hR).symm, (EnvHas.cons rfl (EnvHas.cons rfl EnvHas.nil)), h56⟩
        ·
          rintro ev74 wl74 ⟨hy74, he74, h74⟩
          obtain ⟨ev74, rfl⟩ := he74.open
          replace hR := hR055  hy74
          refine hK19 _ _ ?_; clear hK19
          refine W.seq_k fun K75 hK75 => ?_
          refine W.regionT [(0, true), (1, true), (2, true), (3, true), (4, true), (5, true), (6, false), (7, true), (8, true), (9, false)] (by kernel_rfl) ?_
          refine Plan.move_ptr rfl rfl ?_
          refine Plan.move_ptr rfl rfl ?_
          exact hR.elim
  ·
    refine Plan.call (vs := [.int .i64 most1]) rfl FRef15.call51 rfl (letheref15_New_ok  hr5 HST) ?_
    rintro _ w82 ⟨b0_76, aw0_0_77, pw0_0_78, nw0_0_79, cw0_0_80, Fw0_0_81, rfl, h82, hf82_0⟩
    try dsimp only at hf82_0
    obtain rfl := hf82_0.hl
    refine ⟨_, rfl, .inl ⟨PIn.keep (by exact PIn.nil) h82, ?_⟩⟩
    refine Plan.move_tuple rfl rfl ?_
    refine Plan.extract_ptr rfl rfl rfl ?_
    refine Plan.extract_int rfl rfl rfl ?_
    refine Plan.assign_ptr rfl rfl ?_
    refine Plan.assign_int rfl rfl ?_
    refine Plan.nil ?_
    refine hK4 _ _ ?_; clear hK4
    refine W.seq_k fun K83 hK83 => ?_
    refine W.seq_k fun K84 hK84 => ?_
    refine W.regionT [(0, true), (1, true)] (by kernel_rfl) ?_
    refine Plan.move_int rfl rfl ?_
    refine Plan.cmpP (a := (((x_9 : Nat) : Int) : Int)) (b := (0 : Int)) (p := x_9 ≠ 0) rfl rfl rfl rfl icmp_neN ?_
    refine Plan.nil ?_
    refine hK84 _ _ ?_; clear hK84
    by_cases hc85 : x_9 ≠ 0
    ·
      replace hR := ifT hR hc85
      refine W.condT (congrArg Value.bool (decide_eq_true hc85)) ?_
      refine W.seq_k fun K86 hK86 => ?_
      refine W.regionT [(0, true), (1, true), (2, true)] (by kernel_rfl) ?_
      refine Plan.move_int rfl rfl ?_
      refine Plan.assign_ptr rfl rfl ?_
      refine Plan.assign_int rfl rfl ?_
      refine Plan.nil ?_
      refine hK86 _ _ ?_; clear hK86
      refine W.ret (thenR_ret (finR_ret ?_))
      have h87 := St.pickT (C := [_, _, _]) h82 [] (by decide)
      simp only [pick, List.filterMap_cons, List.filterMap_nil, List.getElem?_cons_zero, List.getElem?_cons_succ, List.cons_append, List.nil_append] at h87
      subst r
      refine RetOk.mk (.tmp_ptr rfl (.tmp_int rfl .nil)) ?_
      exact ⟨rfl, h87⟩
    ·
      replace hR := ifF hR hc85
      refine W.condF (congrArg Value.bool (decide_eq_false hc85)) ?_
      refine W.skip ?_
      refine hK83 _ _ ?_; clear hK83
      refine W.seq_k fun K88 hK88 => ?_
      refine W.seq_k fun K89 hK89 => ?_
      refine W.regionT [(0, true), (1, true), (2, true), (3, true)] (by kernel_rfl) ?_
      refine Plan.move_slice rfl rfl ?_
      refine Plan.len FRef15.isl78 rfl rfl ?_
      refine Plan.move_int rfl rfl ?_
      refine Plan.cmpP (a := (((list2.length : Nat) : Int) : Int)) (b := (most1 : Int)) (p := most1 < ((list2.length : Nat) : Int)) rfl rfl rfl rfl icmp_gt ?_
      refine Plan.nil ?_
      refine hK89 _ _ ?_; clear hK89
      by_cases hc90 : most1 < ((list2.length : Nat) : Int)
      ·
        replace hR := ifT hR hc90
        refine W.condT (congrArg Value.bool (decide_eq_true hc90)) ?_
        refine W.seq_k fun K91 hK91 => ?_
        refine W.regionT [(0, true), (1, true)] (by kernel_rfl) ?_
        refine Plan.assign_ptr rfl rfl ?_
        refine Plan.assign_int rfl rfl ?_
        refine Plan.nil ?_
        refine hK91 _ _ ?_; clear hK91
        refine W.ret (thenR_ret (finR_ret ?_))
        have h92 := St.pickT (C := [_, _, _]) h82 [] (by decide)
        simp only [pick, List.filterMap_cons, List.filterMap_nil, List.getElem?_cons_zero, List.getElem?_cons_succ, List.cons_append, List.nil_append] at h92
        subst r
        refine RetOk.mk (.tmp_ptr rfl (.tmp_int rfl .nil)) ?_
        exact ⟨rfl, h92⟩
      ·
        replace hR := ifF hR hc90
        refine W.condF (congrArg Value.bool (decide_eq_false hc90)) ?_
        refine W.skip ?_
        refine hK88 _ _ ?_; clear hK88
        refine W.seq_k fun K93 hK93 => ?_
        refine W.seq_k fun K94 hK94 => ?_
        refine W.regionT [(0, true)] (by kernel_rfl) ?_
        refine Plan.assign_int rfl rfl ?_
        refine Plan.nil ?_
        refine hK94 _ _ ?_; clear hK94
        obtain ⟨x129, hI129, hR0129⟩ := hR
        refine W.cutN (fun e w => x129 = some () ∧ EnvHas e [(1, .slice alist2 list2.length clist2), (6, .pointer (some ⟨b0_76, 0, none⟩))] ∧ St B w0 (⟨some b0_76, 0, 1, fun _ => .slice aw0_0_77 x_7.length cw0_0_80, true⟩ :: ⟨pw0_0_78, 0, cw0_0_80 * 34, Fw0_0_81, true⟩ :: ⟨some b0_76, 1, 1, fun _ => .int .i64 x_8, true⟩ :: L) w) ?_ ?_
        ·
          refine W.block ?_
          refine W.iter hI129 (fun (s129 : Nat) e w => EnvHas e [(1, .slice alist2 list2.length clist2), (6, .pointer (some ⟨b0_76, 0, none⟩)), (8, VN s129)] ∧ St B w0 (⟨some b0_76, 0, 1, fun _ => .slice aw0_0_77 x_7.length cw0_0_80, true⟩ :: ⟨pw0_0_78, 0, cw0_0_80 * 34, Fw0_0_81, true⟩ :: ⟨some b0_76, 1, 1, fun _ => .int .i64 x_8, true⟩ :: L) w) ⟨(EnvHas.cons rfl (EnvHas.cons rfl (EnvHas.cons rfl EnvHas.nil))), h82⟩ ?_
          rintro i_128 o129 hR hx129 ev130 wl130 ⟨he130, h130⟩
          obtain ⟨ev130, rfl⟩ := he130.open
          unfold letheref15_Load_l1 at hR
          refine W.seq_k fun K131 hK131 => ?_
          refine W.seq_k fun K132 hK132 => ?_
          refine W.regionT [(0, true), (1, true), (2, true), (3, true)] (by kernel_rfl) ?_
          refine Plan.move_int rfl rfl ?_
          refine Plan.move_slice rfl rfl ?_
          refine Plan.len FRef15.isl78 rfl rfl ?_
          refine Plan.cmpP (a := (((i_128 : Nat) : Int) : Int)) (b := (((list2.length : Nat) : Int) : Int)) (p := i_128 < list2.length) rfl rfl rfl rfl icmp_ltN ?_
          refine Plan.nil ?_
          refine hK132 _ _ ?_; clear hK132
          by_cases hc133 : i_128 < list2.length
          ·
            replace hR := ifT hR hc133
            refine W.condT (congrArg Value.bool (decide_eq_true hc133)) ?_
            refine W.skip ?_
            refine hK131 _ _ ?_; clear hK131
            refine W.seq_k fun K134 hK134 => ?_
            refine W.block ?_
            refine W.seq_k fun K135 hK135 => ?_
            refine W.regionD FRef15.mixed [(0, true), (1, true), (2, true), (3, true), (4, true), (5, true), (6, true), (7, true), (8, true), (9, false), (10, true)] (by kernel_rfl) ?_
            have h136 := h130.drew
            refine Plan.move_slice rfl rfl ?_
            refine Plan.move_int rfl rfl ?_
            obtain ⟨hc137, hR⟩ := hR
            refine Plan.subI (a := ((i_128 : Nat) : Int)) (b := 1) rfl rfl rfl (by omega) ?_
            obtain ⟨hc138, hR⟩ := hR
            refine Plan.idxLVS (D := D81) (j := (((i_128 : Nat) : Int) - 1).toNat) h136 (hlist2.app [_, _, _]) FRef15.sl78 rfl rfl (congrArg (Value.int .i64) (Int.toNat_of_nonneg hc138.1).symm) (toNat_lt hc138.1 hc138.2) ?_
            refine Plan.loadLV (D := D81) (X := list2) (j := (((i_128 : Nat) : Int) - 1).toNat) (sz := 34) h136 (0#32, 0#32, (fun _ => 0#8)) (hlist2.app [_, _, _]) rfl rfl (toNat_lt hc138.1 hc138.2) rfl FRef15.agg81 fun b139 r139 hs139 hr139 => ?_
            refine Plan.move_slice rfl rfl ?_
            refine Plan.move_int rfl rfl ?_
            obtain ⟨hc140, hR⟩ := hR
            refine Plan.idxLVS (D := D81) (j := i_128) h136 (hlist2.app [_, _, _]) FRef15.sl78 rfl rfl rfl hc140 ?_
            refine Plan.loadLV (D := D81) (X := list2) (j := i_128) (sz := 34) h136 (0#32, 0#32, (fun _ => 0#8)) (hlist2.app [_, _, _]) rfl rfl hc140 rfl FRef15.agg81 fun b141 r141 hs141 hr141 => ?_
            obtain ⟨x_143, hr142, hR⟩ := hR
            refine Plan.call (vs := [AG [(1, fun _ => VU .u32 ((list2.getD ((((i_128 : Nat) : Int) - 1).toNat) (0#32, 0#32, (fun _ => 0#8))).1)), (1, fun _ => VU .u32 ((list2.getD ((((i_128 : Nat) : Int) - 1).toNat) (0#32, 0#32, (fun _ => 0#8))).2.1)), (32, fun q => VU .u8 (((list2.getD ((((i_128 : Nat) : Int) - 1).toNat) (0#32, 0#32, (fun _ => 0#8))).2.2) q))], AG [(1, fun _ => VU .u32 ((list2.getD i_128 (0#32, 0#32, (fun _ => 0#8))).1)), (1, fun _ => VU .u32 ((list2.getD i_128 (0#32, 0#32, (fun _ => 0#8))).2.1)), (32, fun q => VU .u8 (((list2.getD i_128 (0#32, 0#32, (fun _ => 0#8))).2.2) q))]]) rfl FRef15.call78 rfl (letheref15_ahead_ok  hr142 h136) ?_
            rintro _ w144 ⟨rfl, h144⟩
            refine ⟨_, rfl, .inr ⟨rfl, ?_⟩⟩
            refine Plan.not rfl rfl ?_
            refine Plan.nil ?_
            refine hK135 _ _ ?_; clear hK135
            by_cases hc145 : x_143 = true
            ·
              replace hR := ifT hR hc145
              refine W.condF (congrArg Value.bool (congrArg Bool.not hc145)) ?_
              refine W.skip ?_
              refine blockR_norm ?_
              refine hK134 _ _ ?_; clear hK134
              refine W.regionT [(0, true), (1, true), (2, true)] (by kernel_rfl) ?_
              refine Plan.move_int rfl rfl ?_
              obtain ⟨hc146, hR⟩ := hR
              refine Plan.addN (a := i_128) (b := 1) rfl rfl rfl (by omega) ?_
              refine Plan.assign_int rfl rfl ?_
              refine Plan.nil ?_
              exact iterR_norm ⟨_, hR, (EnvHas.cons rfl (EnvHas.cons rfl (EnvHas.cons rfl EnvHas.nil))), h144⟩
            ·
              replace hR := ifF hR hc145
              refine W.condT (congrArg Value.bool (congrArg Bool.not (Bool.eq_false_iff.2 hc145))) ?_
              refine W.seq_k fun K147 hK147 => ?_
              refine W.regionT [(0, true), (1, true)] (by kernel_rfl) ?_
              refine Plan.assign_ptr rfl rfl ?_
              refine Plan.assign_int rfl rfl ?_
              refine Plan.nil ?_
              refine hK147 _ _ ?_; clear hK147
              refine W.ret (blockR_ret (thenR_ret (iterR_ret (blockR_ret (thenR_ret (thenR_ret (finR_ret ?_)))))))
              have h148 := St.pickT (C := [_, _, _]) h144 [] (by decide)
              simp only [pick, List.filterMap_cons, List.filterMap_nil, List.getElem?_cons_zero, List.getElem?_cons_succ, List.cons_append, List.nil_append] at h148
              replace hR := hR.2
              subst r
              refine RetOk.mk (.tmp_ptr rfl (.tmp_int rfl .nil)) ?_
              exact ⟨rfl, h148⟩
          ·
            replace hR := ifF hR hc133
            refine W.condF (congrArg Value.bool (decide_eq_false hc133)) ?_
            refine W.exit (thenR_exit (iterR_exit (blockR_here ?_)))
            exact ⟨(hx129 _ hR).symm, (EnvHas.cons rfl (EnvHas.cons rfl EnvHas.nil)), h130⟩
        ·
          rintro ev149 wl149 ⟨hy149, he149, h149⟩
          obtain ⟨ev149, rfl⟩ := he149.open
          replace hR := hR0129  hy149
          refine hK93 _ _ ?_; clear hK93
          refine W.seq_k fun K150 hK150 => ?_
          refine W.regionT [(0, true), (1, true), (2, true), (3, true), (4, true), (5, true), (6, false), (7, true), (8, true), (9, false)] (by kernel_rfl) ?_
          refine Plan.move_ptr rfl rfl ?_
          refine Plan.move_ptr rfl rfl ?_
          refine Plan.nilCheck rfl rfl ?_
          refine Plan.fieldAddr0 FRef15.fld152_0 rfl rfl ?_
          refine Plan.load0 h149 0 rfl rfl rfl (by omega) FRef15.sc78 ?_
          refine Plan.move_slice rfl rfl ?_
          obtain ⟨hc152, hR⟩ := hR
          refine Plan.appendLO (D := D81) (X := x_7) (Y := list2) (sz := 34) h149 () (0#32, 0#32, (fun _ => 0#8)) 1 hf82_0 rfl FRef15.el78 rfl FRef15.slu78 rfl rfl rfl rfl (hlist2.app [_, _, _]) (fun _ _ h => h) hc152.1 hc152.2 (fun _ => EffO.wait rfl) fun a151 pb151 cap151 F151 w151 ho151 h151 => ?_
          simp only [List.cons_append, List.nil_append, List.set_cons_zero, List.set_cons_succ] at h151
          replace ho151 : LO D81 [] a151 pb151 (x_7 ++ list2).length cap151 F151 (x_7 ++ list2) := ho151.re (fun _ _ h => h)
          refine Plan.nilCheck rfl rfl ?_
          refine Plan.fieldAddr0 FRef15.fld152_0 rfl rfl ?_
          refine Plan.storeC h151 0 rfl rfl rfl rfl rfl FRef15.sz78 rfl fun w153 h153 => ?_
          simp only [List.cons_append, List.nil_append, List.set_cons_zero, List.set_cons_succ] at h153
          refine Plan.nil ?_
          refine hK150 _ _ ?_; clear hK150
          refine W.seq_k fun K154 hK154 => ?_
          refine W.regionT [(0, true), (1, true), (2, true)] (by kernel_rfl) ?_
          refine Plan.move_ptr rfl rfl ?_
          refine Plan.assign_ptr rfl rfl ?_
          refine Plan.assign_int rfl rfl ?_
          refine Plan.nil ?_
          refine hK154 _ _ ?_; clear hK154
          refine W.ret (finR_ret ?_)
          subst r
          refine RetOk.mk (.tmp_ptr rfl (.tmp_int rfl .nil)) ?_
          exact ⟨b0_76, a151, pb151, (x_7 ++ list2).length, cap151, F151, rfl, h153, ho151⟩


set_option maxRecDepth 8000 in
set_option maxHeartbeats 1000000 in
theorem letheref15_Table_at_ok {B : Nat} {w0 : Base} {w : World} {L : List Rg} {bt1 : Nat} {tList2 : List ((BitVec 32) × (BitVec 32) × (Nat → BitVec 8))} {atList2 : Option Addr} {ntList2 ctList2 itList2 : Nat} (htList2 : LV D81 L itList2 atList2 ntList2 ctList2 tList2) {tMost3 : Int} {turn4 : BitVec 32} {n_5 : BitVec 32} {r : Int} (hR : letheref15_Table_at tList2 tMost3 turn4 n_5 r) (HST : St B w0 (⟨some bt1, 0, 1, fun _ => .slice atList2 ntList2 ctList2, true⟩ :: ⟨some bt1, 1, 1, fun _ => .int .i64 tMost3, true⟩ :: L) w) :
    Calls Try.prog 98 #[.pointer (some ⟨bt1, 0, none⟩), VU .u32 turn4, VU .u32 n_5] w fun e w' => e = .returned (.int .i64 r) ∧ St B w0 (⟨some bt1, 0, 1, fun _ => .slice atList2 ntList2 ctList2, true⟩ :: ⟨some bt1, 1, 1, fun _ => .int .i64 tMost3, true⟩ :: L) w' := by
  refine W.enter 40 Try.func98 rfl rfl rfl ?_
  unfold letheref15_Table_at at hR
  have etList2 := htList2.hl; subst etList2
  refine W.seq_k fun K6 hK6 => ?_
  refine W.regionT [(0, true)] (by kernel_rfl) ?_
  refine Plan.assign_int rfl rfl ?_
  refine Plan.nil ?_
  refine hK6 _ _ ?_; clear hK6
  refine W.seq_k fun K7 hK7 => ?_
  refine W.seq_k fun K8 hK8 => ?_
  refine W.regionT [(0, true)] (by kernel_rfl) ?_
  refine Plan.assign_int rfl rfl ?_
  refine Plan.nil ?_
  refine hK8 _ _ ?_; clear hK8
  obtain ⟨x37, hI37, hR037⟩ := hR
  refine W.cutN (fun e w => x37 = some () ∧ EnvHas e [] ∧ St B w0 (⟨some bt1, 0, 1, fun _ => .slice atList2 tList2.length ctList2, true⟩ :: ⟨some bt1, 1, 1, fun _ => .int .i64 tMost3, true⟩ :: L) w) ?_ ?_
  ·
    refine W.block ?_
    refine W.iter hI37 (fun (s37 : Nat) e w => EnvHas e [(0, .pointer (some ⟨bt1, 0, none⟩)), (1, VU .u32 turn4), (2, VU .u32 n_5), (7, VN s37)] ∧ St B w0 (⟨some bt1, 0, 1, fun _ => .slice atList2 tList2.length ctList2, true⟩ :: ⟨some bt1, 1, 1, fun _ => .int .i64 tMost3, true⟩ :: L) w) ⟨(EnvHas.cons rfl (EnvHas.cons rfl (EnvHas.cons rfl (EnvHas.cons rfl EnvHas.nil)))), HST⟩ ?_
    rintro i_36 o37 hR hx37 ev38 wl38 ⟨he38, h38⟩
    obtain ⟨ev38, rfl⟩ := he38.open
    unfold letheref15_Table_at_l0 at hR
    refine W.seq_k fun K39 hK39 => ?_
    refine W.seq_k fun K40 hK40 => ?_
    refine W.regionT [(0, true), (1, true), (2, true), (3, true), (4, true), (5, true), (6, true)] (by kernel_rfl) ?_
    refine Plan.move_int rfl rfl ?_
    refine Plan.move_ptr rfl rfl ?_
    refine Plan.nilCheck rfl rfl ?_
    refine Plan.fieldAddr0 FRef15.fld152_0 rfl rfl ?_
    refine Plan.load0 h38 0 rfl rfl rfl (by omega) FRef15.sc78 ?_
    refine Plan.len FRef15.isl78 rfl rfl ?_
    refine Plan.cmpP (a := (((i_36 : Nat) : Int) : Int)) (b := (((tList2.length : Nat) : Int) : Int)) (p := i_36 < tList2.length) rfl rfl rfl rfl icmp_ltN ?_
    refine Plan.nil ?_
    refine hK40 _ _ ?_; clear hK40
    by_cases hc41 : i_36 < tList2.length
    ·
      replace hR := ifT hR hc41
      refine W.condT (congrArg Value.bool (decide_eq_true hc41)) ?_
      refine W.skip ?_
      refine hK39 _ _ ?_; clear hK39
      refine W.seq_k fun K42 hK42 => ?_
      refine W.block ?_
      refine W.seq_k fun K43 hK43 => ?_
      refine W.regionT [(0, true), (1, true), (2, true), (3, true), (4, true), (5, true), (6, true), (7, true), (8, true), (9, true), (10, true), (11, true), (12, true), (13, true), (14, true), (15, true), (16, true), (17, true), (18, true), (19, true), (20, true), (21, true)] (by kernel_rfl) ?_
      refine Plan.move_ptr rfl rfl ?_
      refine Plan.nilCheck rfl rfl ?_
      refine Plan.fieldAddr0 FRef15.fld152_0 rfl rfl ?_
      refine Plan.load0 h38 0 rfl rfl rfl (by omega) FRef15.sc78 ?_
      refine Plan.move_int rfl rfl ?_
      obtain ⟨hc44, hR⟩ := hR
      refine Plan.idxLVS (D := D81) (j := i_36) h38 (htList2.app [_, _]) FRef15.sl78 rfl rfl rfl hc44 ?_
      refine Plan.fieldLV (D := D81) (j := i_36) (sz := 34) h38 0 (htList2.app [_, _]) hc44 FRef15.fld81_0 rfl rfl ?_
      refine Plan.loadLVf (D := D81) (X := tList2) (j := i_36) (sz := 34) (off := 0) h38 (0#32, 0#32, (fun _ => 0#8)) (fun _ x => VU .u32 x.1) (htList2.app [_, _]) rfl rfl hc44 rfl (by decide) (fun _ _ => rfl) FRef15.sc73 fun b45 r45 hs45 hr45 => ?_
      refine Plan.move_int rfl rfl ?_
      by_cases hc46 : (tList2.getD i_36 (0#32, 0#32, (fun _ => 0#8))).1 = turn4
      ·
        replace hR := ifT hR hc46
        refine Plan.cmpV (a := (((tList2.getD i_36 (0#32, 0#32, (fun _ => 0#8))).1).toNat : Int)) (b := (turn4.toNat : Int)) (p := (tList2.getD i_36 (0#32, 0#32, (fun _ => 0#8))).1 = turn4) (v := true) rfl rfl rfl rfl icmp_eqU (decide_eq_true hc46) ?_
        refine Plan.move_bool rfl rfl ?_
        refine Plan.move_ptr rfl rfl ?_
        refine Plan.nilCheck rfl rfl ?_
        refine Plan.fieldAddr0 FRef15.fld152_0 rfl rfl ?_
        refine Plan.load0 h38 0 rfl rfl rfl (by omega) FRef15.sc78 ?_
        refine Plan.move_int rfl rfl ?_
        obtain ⟨hc47, hR⟩ := hR
        refine Plan.idxLVS (D := D81) (j := i_36) h38 (htList2.app [_, _]) FRef15.sl78 rfl rfl rfl hc47 ?_
        refine Plan.fieldLV (D := D81) (j := i_36) (sz := 34) h38 1 (htList2.app [_, _]) hc47 FRef15.fld81_1 rfl rfl ?_
        refine Plan.loadLVf (D := D81) (X := tList2) (j := i_36) (sz := 34) (off := 1) h38 (0#32, 0#32, (fun _ => 0#8)) (fun _ x => VU .u32 x.2.1) (htList2.app [_, _]) rfl rfl hc47 rfl (by decide) (fun _ _ => rfl) FRef15.sc73 fun b48 r48 hs48 hr48 => ?_
        refine Plan.move_int rfl rfl ?_
        refine Plan.cmpP (a := (((tList2.getD i_36 (0#32, 0#32, (fun _ => 0#8))).2.1).toNat : Int)) (b := (n_5.toNat : Int)) (p := (tList2.getD i_36 (0#32, 0#32, (fun _ => 0#8))).2.1 = n_5) rfl rfl rfl rfl icmp_eqU ?_
        refine Plan.pickTb rfl rfl rfl ?_
        refine Plan.nil ?_
        refine hK43 _ _ ?_; clear hK43
        by_cases hc49 : (tList2.getD i_36 (0#32, 0#32, (fun _ => 0#8))).2.1 = n_5
        ·
          replace hR := ifT hR hc49
          refine W.condT (congrArg Value.bool (decide_eq_true hc49)) ?_
          refine W.seq_k fun K50 hK50 => ?_
          refine W.regionT [(0, true), (1, true)] (by kernel_rfl) ?_
          refine Plan.move_int rfl rfl ?_
          refine Plan.assign_int rfl rfl ?_
          refine Plan.nil ?_
          refine hK50 _ _ ?_; clear hK50
          refine W.ret (blockR_ret (thenR_ret (iterR_ret (blockR_ret (thenR_ret (thenR_ret (finR_ret ?_)))))))
          replace hR := hR.2
          subst r
          refine RetOk.mk (.tmp_int rfl .nil) ?_
          exact ⟨rfl, h38⟩
        ·
          replace hR := ifF hR hc49
          refine W.condF (congrArg Value.bool (decide_eq_false hc49)) ?_
          refine W.skip ?_
          refine blockR_norm ?_
          refine hK42 _ _ ?_; clear hK42
          refine W.regionT [(0, true), (1, true), (2, true)] (by kernel_rfl) ?_
          refine Plan.move_int rfl rfl ?_
          obtain ⟨hc51, hR⟩ := hR
          refine Plan.addN (a := i_36) (b := 1) rfl rfl rfl (by omega) ?_
          refine Plan.assign_int rfl rfl ?_
          refine Plan.nil ?_
          exact iterR_norm ⟨_, hR, (EnvHas.cons rfl (EnvHas.cons rfl (EnvHas.cons rfl (EnvHas.cons rfl EnvHas.nil)))), h38⟩
      ·
        replace hR := ifF hR hc46
        refine Plan.cmpV (a := (((tList2.getD i_36 (0#32, 0#32, (fun _ => 0#8))).1).toNat : Int)) (b := (turn4.toNat : Int)) (p := (tList2.getD i_36 (0#32, 0#32, (fun _ => 0#8))).1 = turn4) (v := false) rfl rfl rfl rfl icmp_eqU (decide_eq_false hc46) ?_
        refine Plan.move_bool rfl rfl ?_
        refine Plan.passed rfl ?_
        refine Plan.passed rfl ?_
        refine Plan.passed rfl ?_
        refine Plan.passed rfl ?_
        refine Plan.passed rfl ?_
        refine Plan.passed rfl ?_
        refine Plan.passed rfl ?_
        refine Plan.passed rfl ?_
        refine Plan.passed rfl ?_
        refine Plan.passed rfl ?_
        refine Plan.pickFb rfl rfl rfl ?_
        refine Plan.nil ?_
        refine hK43 _ _ ?_; clear hK43
        refine W.condF rfl ?_
        refine W.skip ?_
        refine blockR_norm ?_
        refine hK42 _ _ ?_; clear hK42
        refine W.regionT [(0, true), (1, true), (2, true)] (by kernel_rfl) ?_
        refine Plan.move_int rfl rfl ?_
        obtain ⟨hc52, hR⟩ := hR
        refine Plan.addN (a := i_36) (b := 1) rfl rfl rfl (by omega) ?_
        refine Plan.assign_int rfl rfl ?_
        refine Plan.nil ?_
        exact iterR_norm ⟨_, hR, (EnvHas.cons rfl (EnvHas.cons rfl (EnvHas.cons rfl (EnvHas.cons rfl EnvHas.nil)))), h38⟩
    ·
      replace hR := ifF hR hc41
      refine W.condF (congrArg Value.bool (decide_eq_false hc41)) ?_
      refine W.exit (thenR_exit (iterR_exit (blockR_here ?_)))
      exact ⟨(hx37 _ hR).symm, EnvHas.nil, h38⟩
  ·
    rintro ev53 wl53 ⟨hy53, he53, h53⟩
    obtain ⟨ev53, rfl⟩ := he53.open
    replace hR := hR037  hy53
    refine hK7 _ _ ?_; clear hK7
    refine W.seq_k fun K54 hK54 => ?_
    refine W.regionT [(0, true)] (by kernel_rfl) ?_
    refine Plan.assign_int rfl rfl ?_
    refine Plan.nil ?_
    refine hK54 _ _ ?_; clear hK54
    refine W.ret (finR_ret ?_)
    subst r
    refine RetOk.mk (.tmp_int rfl .nil) ?_
    exact ⟨rfl, h53⟩


set_option maxRecDepth 8000 in
set_option maxHeartbeats 1000000 in
theorem letheref15_Table_put_ok {B : Nat} {w0 : Base} {w : World} {L : List Rg} {bt1 : Nat} {tList2 : List ((BitVec 32) × (BitVec 32) × (Nat → BitVec 8))} {atList2 : Option Addr} {ptList2 : Option Nat} {ntList2 ctList2 : Nat} {FtList2 : Nat → Value} (htList2 : LO D81 [] atList2 ptList2 ntList2 ctList2 FtList2 tList2) {tMost3 : Int} {sTurn4 : BitVec 32} {sN5 : BitVec 32} {sKey6 : Nat → BitVec 8} {r : (List ((BitVec 32) × (BitVec 32) × (Nat → BitVec 8)))} (hR : letheref15_Table_put tList2 tMost3 sTurn4 sN5 sKey6 r) (HST : St B w0 (⟨some bt1, 0, 1, fun _ => .slice atList2 ntList2 ctList2, true⟩ :: ⟨ptList2, 0, ctList2 * 34, FtList2, true⟩ :: ⟨some bt1, 1, 1, fun _ => .int .i64 tMost3, true⟩ :: L) w) :
    Calls Try.prog 99 #[.pointer (some ⟨bt1, 0, none⟩), AG [(1, fun _ => VU .u32 sTurn4), (1, fun _ => VU .u32 sN5), (32, fun q => VU .u8 (sKey6 q))]] w fun e w' => ∃ aqtList2 : Option Addr, ∃ pqtList2 : Option Nat, ∃ nqtList2 : Nat, ∃ cqtList2 : Nat, ∃ FqtList2 : Nat → Value, e = .returned (.tuple #[]) ∧ St B w0 (⟨some bt1, 0, 1, fun _ => .slice aqtList2 nqtList2 cqtList2, true⟩ :: ⟨pqtList2, 0, cqtList2 * 34, FqtList2, true⟩ :: ⟨some bt1, 1, 1, fun _ => .int .i64 tMost3, true⟩ :: L) w' ∧ LO D81 [] aqtList2 pqtList2 nqtList2 cqtList2 FqtList2 r := by
  refine W.enter 53 Try.func99 rfl rfl rfl ?_
  unfold letheref15_Table_put at hR
  have etList2 := htList2.hl; subst etList2
  refine W.seq_k fun K7 hK7 => ?_
  refine W.regionT [(0, false)] (by kernel_rfl) ?_
  refine Plan.boxA HST rfl rfl PIn.nil fun b8 w8 hb8 h8 => ?_
  simp only [rngs, Nat.zero_add, Nat.reduceAdd, List.cons_append, List.nil_append] at h8
  refine Plan.nil ?_
  refine hK7 _ _ ?_; clear hK7
  refine W.seq_k fun K9 hK9 => ?_
  refine W.regionT [(0, true)] (by kernel_rfl) ?_
  refine Plan.assign_slice rfl rfl ?_
  refine Plan.nil ?_
  refine hK9 _ _ ?_; clear hK9
  refine W.seq_k fun K10 hK10 => ?_
  refine W.regionT [(0, true)] (by kernel_rfl) ?_
  refine Plan.assign_bool rfl rfl ?_
  refine Plan.nil ?_
  refine hK10 _ _ ?_; clear hK10
  refine W.seq_k fun K11 hK11 => ?_
  refine W.seq_k fun K12 hK12 => ?_
  refine W.regionT [(0, true)] (by kernel_rfl) ?_
  refine Plan.assign_int rfl rfl ?_
  refine Plan.nil ?_
  refine hK12 _ _ ?_; clear hK12
  have h116 : St B w0 (⟨none, 0, 0 * 34, fun _ => undef, true⟩ :: _) _ := h8.nilE (fun _ => undef)
  obtain ⟨out113, done114, hI115, hR0115⟩ := hR
  refine W.cutN (fun e w => ∃ y_out113 : List ((BitVec 32) × (BitVec 32) × (Nat → BitVec 8)), ∃ y_done114 : Bool, (out113, done114) = (y_out113, y_done114) ∧ ∃ n_out113 : Nat, ∃ aout113 : Option Addr, ∃ pout113 : Option Nat, ∃ cout113 : Nat, ∃ Fout113 : Nat → Value, EnvHas e [(0, .pointer (some ⟨bt1, 0, none⟩)), (3, .pointer (some ⟨b8, 0, none⟩)), (4, .slice aout113 n_out113 cout113), (5, .bool y_done114)] ∧ St B w0 (⟨pout113, 0, cout113 * 34, Fout113, true⟩ :: ⟨some b8, 0, 1, fun _ => VU .u32 sTurn4, true⟩ :: ⟨some b8, 1, 1, fun _ => VU .u32 sN5, true⟩ :: ⟨some b8, 2, 32, fun q => VU .u8 (sKey6 q), true⟩ :: ⟨some bt1, 0, 1, fun _ => .slice atList2 tList2.length ctList2, true⟩ :: ⟨ptList2, 0, ctList2 * 34, FtList2, true⟩ :: ⟨some bt1, 1, 1, fun _ => .int .i64 tMost3, true⟩ :: L) w ∧ LO D81 [] aout113 pout113 n_out113 cout113 Fout113 y_out113) ?_ ?_
  ·
    refine W.block ?_
    refine W.iter hI115 (fun (s115 : ((List ((BitVec 32) × (BitVec 32) × (Nat → BitVec 8))) × Bool × Nat)) e w => ∃ n_out109 : Nat, ∃ aout109 : Option Addr, ∃ pout109 : Option Nat, ∃ cout109 : Nat, ∃ Fout109 : Nat → Value, EnvHas e [(0, .pointer (some ⟨bt1, 0, none⟩)), (3, .pointer (some ⟨b8, 0, none⟩)), (4, .slice aout109 n_out109 cout109), (5, .bool s115.2.1), (6, VN s115.2.2)] ∧ St B w0 (⟨pout109, 0, cout109 * 34, Fout109, true⟩ :: ⟨some b8, 0, 1, fun _ => VU .u32 sTurn4, true⟩ :: ⟨some b8, 1, 1, fun _ => VU .u32 sN5, true⟩ :: ⟨some b8, 2, 32, fun q => VU .u8 (sKey6 q), true⟩ :: ⟨some bt1, 0, 1, fun _ => .slice atList2 tList2.length ctList2, true⟩ :: ⟨ptList2, 0, ctList2 * 34, FtList2, true⟩ :: ⟨some bt1, 1, 1, fun _ => .int .i64 tMost3, true⟩ :: L) w ∧ LO D81 [] aout109 pout109 n_out109 cout109 Fout109 s115.1) ⟨0, none, none, 0, (fun _ => undef), (EnvHas.cons rfl (EnvHas.cons rfl (EnvHas.cons rfl (EnvHas.cons rfl (EnvHas.cons rfl EnvHas.nil))))), h116, LO.nil⟩ ?_
    rintro ⟨out109, done111, i_112⟩ o115 hR hx115 ev117 wl117 ⟨n_out109, aout109, pout109, cout109, Fout109, he117, h117, hout109⟩
    try dsimp only at he117 h117 hout109
    obtain rfl : List.length (α := ((BitVec 32) × (BitVec 32) × (Nat → BitVec 8))) out109 = n_out109 := hout109.hl
    obtain ⟨ev117, rfl⟩ := he117.open
    unfold letheref15_Table_put_l0 at hR
    refine W.seq_k fun K118 hK118 => ?_
    refine W.seq_k fun K119 hK119 => ?_
    refine W.regionT [(0, true), (1, true), (2, true), (3, true), (4, true), (5, true), (6, true)] (by kernel_rfl) ?_
    refine Plan.move_int rfl rfl ?_
    refine Plan.move_ptr rfl rfl ?_
    refine Plan.nilCheck rfl rfl ?_
    refine Plan.fieldAddr0 FRef15.fld152_0 rfl rfl ?_
    refine Plan.load0 h117 4 rfl rfl rfl (by omega) FRef15.sc78 ?_
    refine Plan.len FRef15.isl78 rfl rfl ?_
    refine Plan.cmpP (a := (((i_112 : Nat) : Int) : Int)) (b := (((tList2.length : Nat) : Int) : Int)) (p := i_112 < tList2.length) rfl rfl rfl rfl icmp_ltN ?_
    refine Plan.nil ?_
    refine hK119 _ _ ?_; clear hK119
    by_cases hc120 : i_112 < tList2.length
    ·
      replace hR := ifT hR hc120
      refine W.condT (congrArg Value.bool (decide_eq_true hc120)) ?_
      refine W.skip ?_
      refine hK118 _ _ ?_; clear hK118
      refine W.seq_k fun K121 hK121 => ?_
      refine W.block ?_
      refine W.seq_k fun K122 hK122 => ?_
      obtain ⟨out137, done138, hX139, hR0139⟩ := hR
      refine W.cutN (fun e w => ∃ y_out137 : List ((BitVec 32) × (BitVec 32) × (Nat → BitVec 8)), ∃ y_done138 : Bool, (out137 = y_out137 ∧ done138 = y_done138) ∧ ∃ n_out137 : Nat, ∃ aout137 : Option Addr, ∃ pout137 : Option Nat, ∃ cout137 : Nat, ∃ Fout137 : Nat → Value, EnvHas e [(0, .pointer (some ⟨bt1, 0, none⟩)), (3, .pointer (some ⟨b8, 0, none⟩)), (4, .slice aout137 n_out137 cout137), (5, .bool y_done138), (6, VN i_112)] ∧ St B w0 (⟨pout137, 0, cout137 * 34, Fout137, true⟩ :: ⟨some b8, 0, 1, fun _ => VU .u32 sTurn4, true⟩ :: ⟨some b8, 1, 1, fun _ => VU .u32 sN5, true⟩ :: ⟨some b8, 2, 32, fun q => VU .u8 (sKey6 q), true⟩ :: ⟨some bt1, 0, 1, fun _ => .slice atList2 tList2.length ctList2, true⟩ :: ⟨ptList2, 0, ctList2 * 34, FtList2, true⟩ :: ⟨some bt1, 1, 1, fun _ => .int .i64 tMost3, true⟩ :: L) w ∧ LO D81 [] aout137 pout137 n_out137 cout137 Fout137 y_out137) ?_ ?_
      ·
        replace hR := hX139
        refine W.seq_k fun K140 hK140 => ?_
        refine W.regionD FRef15.mixed [(0, true), (1, true), (2, true), (3, true), (4, true), (5, true), (6, true), (7, true), (8, true), (9, true), (10, true), (11, false), (12, true)] (by kernel_rfl) ?_
        have h141 := h117.drew
        by_cases hc142 : done111 = true
        ·
          replace hR := ifT hR hc142
          refine Plan.move_bool (b := true) rfl (congrArg Value.bool hc142) ?_
          refine Plan.notT rfl rfl ?_
          refine Plan.move_bool rfl rfl ?_
          refine Plan.passed rfl ?_
          refine Plan.passed rfl ?_
          refine Plan.passed rfl ?_
          refine Plan.passed rfl ?_
          refine Plan.passed rfl ?_
          refine Plan.passed rfl ?_
          refine Plan.passed rfl ?_
          refine Plan.passed rfl ?_
          refine Plan.passed rfl ?_
          refine Plan.pickFb rfl rfl rfl ?_
          refine Plan.nil ?_
          refine hK140 _ _ ?_; clear hK140
          refine W.condF rfl ?_
          refine W.skip ?_
          exact ⟨out109, done111, hR, out109.length, aout109, pout109, cout109, Fout109, (EnvHas.cons rfl (EnvHas.cons rfl (EnvHas.cons rfl (EnvHas.cons rfl (EnvHas.cons rfl EnvHas.nil))))), h141, hout109⟩
        ·
          replace hR := ifF hR hc142
          refine Plan.move_bool (b := false) rfl (congrArg Value.bool (Bool.eq_false_iff.2 hc142)) ?_
          refine Plan.notF rfl rfl ?_
          refine Plan.move_bool rfl rfl ?_
          refine Plan.loadA h141 rfl rfl (.cons 1 rfl (.cons 2 rfl (.cons 3 rfl .nil))) FRef15.agg81 ?_
          refine Plan.move_ptr rfl rfl ?_
          refine Plan.nilCheck rfl rfl ?_
          refine Plan.fieldAddr0 FRef15.fld152_0 rfl rfl ?_
          refine Plan.load0 h141 4 rfl rfl rfl (by omega) FRef15.sc78 ?_
          refine Plan.move_int rfl rfl ?_
          obtain ⟨hc143, hR⟩ := hR
          refine Plan.idxLVS (D := D81) (j := i_112) h141 (LO.lvf D81_flat htList2 5 rfl) FRef15.sl78 rfl rfl rfl hc143 ?_
          refine Plan.loadLV (D := D81) (X := tList2) (j := i_112) (sz := 34) h141 (0#32, 0#32, (fun _ => 0#8)) (LO.lvf D81_flat htList2 5 rfl) rfl rfl hc143 rfl FRef15.agg81 fun b144 r144 hs144 hr144 => ?_
          obtain ⟨x_146, hr145, hR⟩ := hR
          refine Plan.callMix (vs := [AG [(1, fun _ => VU .u32 sTurn4), (1, fun _ => VU .u32 sN5), (32, fun q => VU .u8 (sKey6 q))], AG [(1, fun _ => VU .u32 ((tList2.getD i_112 (0#32, 0#32, (fun _ => 0#8))).1)), (1, fun _ => VU .u32 ((tList2.getD i_112 (0#32, 0#32, (fun _ => 0#8))).2.1)), (32, fun q => VU .u8 (((tList2.getD i_112 (0#32, 0#32, (fun _ => 0#8))).2.2) q))]]) rfl FRef15.call78 rfl (letheref15_ahead_ok  hr145 h141) ?_
          rintro _ w147 ⟨rfl, h147⟩
          refine ⟨_, rfl, _, _, _, _, h147, (by exact (EffO.mix _ (Filt.drop rfl (Filt.keep rfl (Filt.drop rfl Filt.nil))) (PIn.cons 4 rfl PIn.nil))), ?_⟩
          refine Plan.pickTb rfl rfl rfl ?_
          refine Plan.nil ?_
          refine hK140 _ _ ?_; clear hK140
          by_cases hc148 : x_146 = true
          ·
            replace hR := ifT hR hc148
            refine W.condT (congrArg Value.bool hc148) ?_
            refine W.seq_k fun K149 hK149 => ?_
            refine W.regionT [(0, true), (1, true), (2, false), (3, false), (4, true)] (by kernel_rfl) ?_
            refine Plan.move_slice rfl rfl ?_
            refine Plan.loadA h147 rfl rfl (.cons 1 rfl (.cons 2 rfl (.cons 3 rfl .nil))) FRef15.agg81 ?_
            refine Plan.buildLO (D := D81) (sz := 34) h147 [((), (sTurn4, sN5, sKey6))] FRef15.slu78 FRef15.sz81 FRef15.zv81 (by decide) (by decide) rfl rfl rfl rfl (fun _ _ => trivial) (EffO.wait rfl) fun b151 w151 F151 hb151 ho151 h151 => ?_
            replace ho151 : LO D81 [] (some ⟨b151, 0, none⟩) (some b151) ([(sTurn4, sN5, sKey6)] : List ((BitVec 32) × (BitVec 32) × (Nat → BitVec 8))).length 1 F151 ([(sTurn4, sN5, sKey6)] : List ((BitVec 32) × (BitVec 32) × (Nat → BitVec 8))) := ho151.re (fun _ _ h => h)
            obtain ⟨hc153, hR⟩ := hR
            refine Plan.appendLO (D := D81) (X := out109) (Y := ([(sTurn4, sN5, sKey6)] : List ((BitVec 32) × (BitVec 32) × (Nat → BitVec 8)))) (sz := 34) h151 () (0#32, 0#32, (fun _ => 0#8)) 1 hout109 rfl FRef15.el78 rfl FRef15.slu78 rfl rfl rfl rfl (LO.lvf D81_flat ho151 0 rfl) (fun _ _ h => h) hc153.1 hc153.2 (fun _ => EffO.keep PIn.nil) fun a152 pb152 cap152 F152 w152 ho152 h152 => ?_
            simp only [List.cons_append, List.nil_append, List.set_cons_zero, List.set_cons_succ] at h152
            replace ho152 : LO D81 [] a152 pb152 (out109 ++ ([(sTurn4, sN5, sKey6)] : List ((BitVec 32) × (BitVec 32) × (Nat → BitVec 8)))).length cap152 F152 (out109 ++ ([(sTurn4, sN5, sKey6)] : List ((BitVec 32) × (BitVec 32) × (Nat → BitVec 8)))) := ho152.re (fun _ _ h => h)
            refine Plan.assign_slice rfl rfl ?_
            refine Plan.nil ?_
            refine hK149 _ _ ?_; clear hK149
            refine W.regionT [(0, true)] (by kernel_rfl) ?_
            refine Plan.assign_bool rfl rfl ?_
            refine Plan.nil ?_
            have h154 := St.pickT (C := [_, _, _, _, _, _, _, _]) h152 [1, 2, 3, 4, 5, 6, 7] (by decide)
            simp only [pick, List.filterMap_cons, List.filterMap_nil, List.getElem?_cons_zero, List.getElem?_cons_succ, List.cons_append, List.nil_append] at h154
            exact ⟨(out109 ++ ([(sTurn4, sN5, sKey6)] : List ((BitVec 32) × (BitVec 32) × (Nat → BitVec 8)))), true, hR, (out109 ++ ([(sTurn4, sN5, sKey6)] : List ((BitVec 32) × (BitVec 32) × (Nat → BitVec 8)))).length, a152, pb152, cap152, F152, (EnvHas.cons rfl (EnvHas.cons rfl (EnvHas.cons rfl (EnvHas.cons rfl (EnvHas.cons rfl EnvHas.nil))))), h154, ho152⟩
          ·
            replace hR := ifF hR hc148
            refine W.condF (congrArg Value.bool (Bool.eq_false_iff.2 hc148)) ?_
            refine W.skip ?_
            exact ⟨out109, done111, hR, out109.length, aout109, pout109, cout109, Fout109, (EnvHas.cons rfl (EnvHas.cons rfl (EnvHas.cons rfl (EnvHas.cons rfl (EnvHas.cons rfl EnvHas.nil))))), h147, hout109⟩
      ·
        rintro ev155 wl155 ⟨y_out137, y_done138, ⟨hy155_0, hy155_1⟩, n_out137, aout137, pout137, cout137, Fout137, he155, h155, hout137⟩
        subst hy155_0
        subst hy155_1
        obtain rfl : List.length (α := ((BitVec 32) × (BitVec 32) × (Nat → BitVec 8))) out137 = n_out137 := hout137.hl
        obtain ⟨ev155, rfl⟩ := he155.open
        replace hR := hR0139
        refine hK122 _ _ ?_; clear hK122
        refine W.regionT [(0, true), (1, true), (2, true), (3, true), (4, true), (5, true), (6, true), (7, true), (8, false), (9, false), (10, true)] (by kernel_rfl) ?_
        refine Plan.move_slice rfl rfl ?_
        refine Plan.move_ptr rfl rfl ?_
        refine Plan.nilCheck rfl rfl ?_
        refine Plan.fieldAddr0 FRef15.fld152_0 rfl rfl ?_
        refine Plan.load0 h155 4 rfl rfl rfl (by omega) FRef15.sc78 ?_
        refine Plan.move_int rfl rfl ?_
        obtain ⟨hc156, hR⟩ := hR
        refine Plan.idxLVS (D := D81) (j := i_112) h155 (LO.lvf D81_flat htList2 5 rfl) FRef15.sl78 rfl rfl rfl hc156 ?_
        refine Plan.loadLV (D := D81) (X := tList2) (j := i_112) (sz := 34) h155 (0#32, 0#32, (fun _ => 0#8)) (LO.lvf D81_flat htList2 5 rfl) rfl rfl hc156 rfl FRef15.agg81 fun b157 r157 hs157 hr157 => ?_
        refine Plan.buildLO (D := D81) (sz := 34) h155 [((), ((tList2.getD i_112 (0#32, 0#32, (fun _ => 0#8))).1, (tList2.getD i_112 (0#32, 0#32, (fun _ => 0#8))).2.1, (tList2.getD i_112 (0#32, 0#32, (fun _ => 0#8))).2.2))] FRef15.slu78 FRef15.sz81 FRef15.zv81 (by decide) (by decide) rfl rfl rfl rfl (fun _ _ => trivial) (EffO.mix _ (Filt.drop rfl (Filt.keep rfl Filt.nil)) (PIn.cons 4 rfl PIn.nil)) fun b159 w159 F159 hb159 ho159 h159 => ?_
        replace ho159 : LO D81 [] (some ⟨b159, 0, none⟩) (some b159) ([((tList2.getD i_112 (0#32, 0#32, (fun _ => 0#8))).1, (tList2.getD i_112 (0#32, 0#32, (fun _ => 0#8))).2.1, (tList2.getD i_112 (0#32, 0#32, (fun _ => 0#8))).2.2)] : List ((BitVec 32) × (BitVec 32) × (Nat → BitVec 8))).length 1 F159 ([((tList2.getD i_112 (0#32, 0#32, (fun _ => 0#8))).1, (tList2.getD i_112 (0#32, 0#32, (fun _ => 0#8))).2.1, (tList2.getD i_112 (0#32, 0#32, (fun _ => 0#8))).2.2)] : List ((BitVec 32) × (BitVec 32) × (Nat → BitVec 8))) := ho159.re (fun _ _ h => h)
        obtain ⟨hc161, hR⟩ := hR
        refine Plan.appendLO (D := D81) (X := out137) (Y := ([((tList2.getD i_112 (0#32, 0#32, (fun _ => 0#8))).1, (tList2.getD i_112 (0#32, 0#32, (fun _ => 0#8))).2.1, (tList2.getD i_112 (0#32, 0#32, (fun _ => 0#8))).2.2)] : List ((BitVec 32) × (BitVec 32) × (Nat → BitVec 8)))) (sz := 34) h159 () (0#32, 0#32, (fun _ => 0#8)) 1 hout137 rfl FRef15.el78 rfl FRef15.slu78 rfl rfl rfl rfl (LO.lvf D81_flat ho159 0 rfl) (fun _ _ h => h) hc161.1 hc161.2 (fun _ => EffO.keep (PIn.cons 5 rfl PIn.nil)) fun a160 pb160 cap160 F160 w160 ho160 h160 => ?_
        simp only [List.cons_append, List.nil_append, List.set_cons_zero, List.set_cons_succ] at h160
        replace ho160 : LO D81 [] a160 pb160 (out137 ++ ([((tList2.getD i_112 (0#32, 0#32, (fun _ => 0#8))).1, (tList2.getD i_112 (0#32, 0#32, (fun _ => 0#8))).2.1, (tList2.getD i_112 (0#32, 0#32, (fun _ => 0#8))).2.2)] : List ((BitVec 32) × (BitVec 32) × (Nat → BitVec 8)))).length cap160 F160 (out137 ++ ([((tList2.getD i_112 (0#32, 0#32, (fun _ => 0#8))).1, (tList2.getD i_112 (0#32, 0#32, (fun _ => 0#8))).2.1, (tList2.getD i_112 (0#32, 0#32, (fun _ => 0#8))).2.2)] : List ((BitVec 32) × (BitVec 32) × (Nat → BitVec 8)))) := ho160.re (fun _ _ h => h)
        refine Plan.assign_slice rfl rfl ?_
        refine Plan.nil ?_
        refine blockR_norm ?_
        refine hK121 _ _ ?_; clear hK121
        refine W.regionT [(0, true), (1, true), (2, true)] (by kernel_rfl) ?_
        refine Plan.move_int rfl rfl ?_
        obtain ⟨hc162, hR⟩ := hR
        refine Plan.addN (a := i_112) (b := 1) rfl rfl rfl (by omega) ?_
        refine Plan.assign_int rfl rfl ?_
        refine Plan.nil ?_
        have h163 := St.pickT (C := [_, _, _, _, _, _, _, _]) h160 [1, 2, 3, 4, 5, 6, 7] (by decide)
        simp only [pick, List.filterMap_cons, List.filterMap_nil, List.getElem?_cons_zero, List.getElem?_cons_succ, List.cons_append, List.nil_append] at h163
        exact iterR_norm ⟨_, hR, (out137 ++ ([((tList2.getD i_112 (0#32, 0#32, (fun _ => 0#8))).1, (tList2.getD i_112 (0#32, 0#32, (fun _ => 0#8))).2.1, (tList2.getD i_112 (0#32, 0#32, (fun _ => 0#8))).2.2)] : List ((BitVec 32) × (BitVec 32) × (Nat → BitVec 8)))).length, a160, pb160, cap160, F160, (EnvHas.cons rfl (EnvHas.cons rfl (EnvHas.cons rfl (EnvHas.cons rfl (EnvHas.cons rfl EnvHas.nil))))), h163, ho160⟩
    ·
      replace hR := ifF hR hc120
      refine W.condF (congrArg Value.bool (decide_eq_false hc120)) ?_
      refine W.exit (thenR_exit (iterR_exit (blockR_here ?_)))
      exact ⟨out109, done111, (hx115 _ hR).symm, out109.length, aout109, pout109, cout109, Fout109, (EnvHas.cons rfl (EnvHas.cons rfl (EnvHas.cons rfl (EnvHas.cons rfl EnvHas.nil)))), h117, hout109⟩
  ·
    rintro ev164 wl164 ⟨y_out113, y_done114, hy164, n_out113, aout113, pout113, cout113, Fout113, he164, h164, hout113⟩
    obtain ⟨ev164, rfl⟩ := he164.open
    cases hy164
    replace hR := hR0115
    obtain rfl : List.length (α := ((BitVec 32) × (BitVec 32) × (Nat → BitVec 8))) out113 = n_out113 := hout113.hl
    refine hK11 _ _ ?_; clear hK11
    refine W.seq_k fun K165 hK165 => ?_
    obtain ⟨out172, hX173, hR0173⟩ := hR
    refine W.cutN (fun e w => ∃ y_out172 : List ((BitVec 32) × (BitVec 32) × (Nat → BitVec 8)), (out172 = y_out172) ∧ ∃ n_out172 : Nat, ∃ aout172 : Option Addr, ∃ pout172 : Option Nat, ∃ cout172 : Nat, ∃ Fout172 : Nat → Value, EnvHas e [(0, .pointer (some ⟨bt1, 0, none⟩)), (4, .slice aout172 n_out172 cout172)] ∧ St B w0 (⟨pout172, 0, cout172 * 34, Fout172, true⟩ :: ⟨some bt1, 0, 1, fun _ => .slice atList2 tList2.length ctList2, true⟩ :: ⟨ptList2, 0, ctList2 * 34, FtList2, true⟩ :: ⟨some bt1, 1, 1, fun _ => .int .i64 tMost3, true⟩ :: L) w ∧ LO D81 [] aout172 pout172 n_out172 cout172 Fout172 y_out172) ?_ ?_
    ·
      replace hR := hX173
      refine W.seq_k fun K174 hK174 => ?_
      refine W.regionT [(0, true), (1, true)] (by kernel_rfl) ?_
      refine Plan.move_bool rfl rfl ?_
      refine Plan.not rfl rfl ?_
      refine Plan.nil ?_
      refine hK174 _ _ ?_; clear hK174
      by_cases hc175 : done114 = true
      ·
        replace hR := ifT hR hc175
        refine W.condF (congrArg Value.bool (congrArg Bool.not hc175)) ?_
        refine W.skip ?_
        have h176 := St.pickT (C := [_, _, _, _, _, _, _]) h164 [0, 4, 5, 6] (by decide)
        simp only [pick, List.filterMap_cons, List.filterMap_nil, List.getElem?_cons_zero, List.getElem?_cons_succ, List.cons_append, List.nil_append] at h176
        exact ⟨out113, hR, out113.length, aout113, pout113, cout113, Fout113, (EnvHas.cons rfl (EnvHas.cons rfl EnvHas.nil)), h176, hout113⟩
      ·
        replace hR := ifF hR hc175
        refine W.condT (congrArg Value.bool (congrArg Bool.not (Bool.eq_false_iff.2 hc175))) ?_
        refine W.regionT [(0, true), (1, true), (2, false), (3, false), (4, true)] (by kernel_rfl) ?_
        refine Plan.move_slice rfl rfl ?_
        refine Plan.loadA h164 rfl rfl (.cons 1 rfl (.cons 2 rfl (.cons 3 rfl .nil))) FRef15.agg81 ?_
        refine Plan.buildLO (D := D81) (sz := 34) h164 [((), (sTurn4, sN5, sKey6))] FRef15.slu78 FRef15.sz81 FRef15.zv81 (by decide) (by decide) rfl rfl rfl rfl (fun _ _ => trivial) (EffO.wait rfl) fun b178 w178 F178 hb178 ho178 h178 => ?_
        replace ho178 : LO D81 [] (some ⟨b178, 0, none⟩) (some b178) ([(sTurn4, sN5, sKey6)] : List ((BitVec 32) × (BitVec 32) × (Nat → BitVec 8))).length 1 F178 ([(sTurn4, sN5, sKey6)] : List ((BitVec 32) × (BitVec 32) × (Nat → BitVec 8))) := ho178.re (fun _ _ h => h)
        obtain ⟨hc180, hR⟩ := hR
        refine Plan.appendLO (D := D81) (X := out113) (Y := ([(sTurn4, sN5, sKey6)] : List ((BitVec 32) × (BitVec 32) × (Nat → BitVec 8)))) (sz := 34) h178 () (0#32, 0#32, (fun _ => 0#8)) 1 hout113 rfl FRef15.el78 rfl FRef15.slu78 rfl rfl rfl rfl (LO.lvf D81_flat ho178 0 rfl) (fun _ _ h => h) hc180.1 hc180.2 (fun _ => EffO.keep PIn.nil) fun a179 pb179 cap179 F179 w179 ho179 h179 => ?_
        simp only [List.cons_append, List.nil_append, List.set_cons_zero, List.set_cons_succ] at h179
        replace ho179 : LO D81 [] a179 pb179 (out113 ++ ([(sTurn4, sN5, sKey6)] : List ((BitVec 32) × (BitVec 32) × (Nat → BitVec 8)))).length cap179 F179 (out113 ++ ([(sTurn4, sN5, sKey6)] : List ((BitVec 32) × (BitVec 32) × (Nat → BitVec 8)))) := ho179.re (fun _ _ h => h)
        refine Plan.assign_slice rfl rfl ?_
        refine Plan.nil ?_
        have h181 := St.pickT (C := [_, _, _, _, _, _, _, _]) h179 [1, 5, 6, 7] (by decide)
        simp only [pick, List.filterMap_cons, List.filterMap_nil, List.getElem?_cons_zero, List.getElem?_cons_succ, List.cons_append, List.nil_append] at h181
        exact ⟨(out113 ++ ([(sTurn4, sN5, sKey6)] : List ((BitVec 32) × (BitVec 32) × (Nat → BitVec 8)))), hR, (out113 ++ ([(sTurn4, sN5, sKey6)] : List ((BitVec 32) × (BitVec 32) × (Nat → BitVec 8)))).length, a179, pb179, cap179, F179, (EnvHas.cons rfl (EnvHas.cons rfl EnvHas.nil)), h181, ho179⟩
    ·
      rintro ev182 wl182 ⟨y_out172, hy182_0, n_out172, aout172, pout172, cout172, Fout172, he182, h182, hout172⟩
      subst hy182_0
      obtain rfl : List.length (α := ((BitVec 32) × (BitVec 32) × (Nat → BitVec 8))) out172 = n_out172 := hout172.hl
      obtain ⟨ev182, rfl⟩ := he182.open
      replace hR := hR0173
      refine hK165 _ _ ?_; clear hK165
      refine W.regionT [(0, true), (1, true), (2, true), (3, true), (4, false)] (by kernel_rfl) ?_
      refine Plan.move_ptr rfl rfl ?_
      refine Plan.move_slice rfl rfl ?_
      refine Plan.nilCheck rfl rfl ?_
      refine Plan.fieldAddr0 FRef15.fld152_0 rfl rfl ?_
      refine Plan.storeC h182 1 rfl rfl rfl rfl rfl FRef15.sz78 rfl fun w183 h183 => ?_
      simp only [List.cons_append, List.nil_append, List.set_cons_zero, List.set_cons_succ] at h183
      refine Plan.nil ?_
      refine finR_norm ?_
      have h184 := St.pickT (C := [_, _, _, _]) h183 [1, 0, 3] (by decide)
      simp only [pick, List.filterMap_cons, List.filterMap_nil, List.getElem?_cons_zero, List.getElem?_cons_succ, List.cons_append, List.nil_append] at h184
      subst r
      refine RetOk.mk .nil ?_
      exact ⟨aout172, pout172, out172.length, cout172, Fout172, rfl, h184, hout172⟩


set_option maxRecDepth 8000 in
set_option maxHeartbeats 1000000 in
theorem letheref15_Table_Add_ok {B : Nat} {w0 : Base} {w : World} {L : List Rg} {bt1 : Nat} {tList2 : List ((BitVec 32) × (BitVec 32) × (Nat → BitVec 8))} {atList2 : Option Addr} {ptList2 : Option Nat} {ntList2 ctList2 : Nat} {FtList2 : Nat → Value} (htList2 : LO D81 [] atList2 ptList2 ntList2 ctList2 FtList2 tList2) {tMost3 : Int} {turn4 : BitVec 32} {first5 : BitVec 32} {keys6 : List (Nat → BitVec 8)} {akeys6 : Option Addr} {nkeys6 ckeys6 ikeys6 : Nat} (hkeys6 : LV D71 L ikeys6 akeys6 nkeys6 ckeys6 keys6) {r : (Nat × (List ((BitVec 32) × (BitVec 32) × (Nat → BitVec 8))))} (hR : letheref15_Table_Add tList2 tMost3 turn4 first5 keys6 r) (HST : St B w0 (⟨some bt1, 0, 1, fun _ => .slice atList2 ntList2 ctList2, true⟩ :: ⟨ptList2, 0, ctList2 * 34, FtList2, true⟩ :: ⟨some bt1, 1, 1, fun _ => .int .i64 tMost3, true⟩ :: L) w) :
    Calls Try.prog 79 #[.pointer (some ⟨bt1, 0, none⟩), VU .u32 turn4, VU .u32 first5, .slice akeys6 nkeys6 ckeys6] w fun e w' => ∃ aqtList2 : Option Addr, ∃ pqtList2 : Option Nat, ∃ nqtList2 : Nat, ∃ cqtList2 : Nat, ∃ FqtList2 : Nat → Value, e = .returned (VN r.1) ∧ St B w0 (⟨some bt1, 0, 1, fun _ => .slice aqtList2 nqtList2 cqtList2, true⟩ :: ⟨pqtList2, 0, cqtList2 * 34, FqtList2, true⟩ :: ⟨some bt1, 1, 1, fun _ => .int .i64 tMost3, true⟩ :: L) w' ∧ LO D81 [] aqtList2 pqtList2 nqtList2 cqtList2 FqtList2 r.2 := by
  refine W.enter 66 Try.func79 rfl rfl rfl ?_
  unfold letheref15_Table_Add at hR
  have etList2 := htList2.hl; subst etList2
  have ekeys6 := hkeys6.hl; subst ekeys6
  refine W.seq_k fun K7 hK7 => ?_
  refine W.regionT [(0, true)] (by kernel_rfl) ?_
  refine Plan.assign_int rfl rfl ?_
  refine Plan.nil ?_
  refine hK7 _ _ ?_; clear hK7
  refine W.seq_k fun K8 hK8 => ?_
  refine W.seq_k fun K9 hK9 => ?_
  refine W.regionT [(0, true), (1, true), (2, true)] (by kernel_rfl) ?_
  refine Plan.move_slice rfl rfl ?_
  refine Plan.len FRef15.isl66 rfl rfl ?_
  refine Plan.cmpP (a := (((keys6.length : Nat) : Int) : Int)) (b := (0 : Int)) (p := keys6.length = 0) rfl rfl rfl rfl icmp_eqN ?_
  refine Plan.nil ?_
  refine hK9 _ _ ?_; clear hK9
  by_cases hc10 : keys6.length = 0
  ·
    replace hR := ifT hR hc10
    refine W.condT (congrArg Value.bool (decide_eq_true hc10)) ?_
    refine W.seq_k fun K11 hK11 => ?_
    refine W.regionT [(0, true)] (by kernel_rfl) ?_
    refine Plan.assign_int rfl rfl ?_
    refine Plan.nil ?_
    refine hK11 _ _ ?_; clear hK11
    refine W.ret (thenR_ret (finR_ret ?_))
    subst r
    refine RetOk.mk (.tmp_int rfl .nil) ?_
    exact ⟨atList2, ptList2, tList2.length, ctList2, FtList2, rfl, HST, htList2⟩
  ·
    replace hR := ifF hR hc10
    refine W.condF (congrArg Value.bool (decide_eq_false hc10)) ?_
    refine W.skip ?_
    refine hK8 _ _ ?_; clear hK8
    refine W.seq_k fun K12 hK12 => ?_
    refine W.seq_k fun K13 hK13 => ?_
    refine W.regionT [(0, true), (1, true), (2, true), (3, true), (4, true), (5, true), (6, true)] (by kernel_rfl) ?_
    refine Plan.move_int rfl rfl ?_
    refine Plan.convN (a := first5.toNat) FRef15.u3 FRef15.some73 rfl rfl (Nat.lt_of_lt_of_le first5.isLt (by decide)) ?_
    refine Plan.move_slice rfl rfl ?_
    refine Plan.len FRef15.isl66 rfl rfl ?_
    obtain ⟨hc14, hR⟩ := hR
    refine Plan.addN (a := first5.toNat) (b := keys6.length) rfl rfl rfl (by omega) ?_
    obtain ⟨hc15, hR⟩ := hR
    refine Plan.subI (a := (((first5.toNat + keys6.length) : Nat) : Int)) (b := 1) rfl rfl rfl (by omega) ?_
    refine Plan.cmpP (a := (((((first5.toNat + keys6.length) : Nat) : Int) - 1) : Int)) (b := (4294967295 : Int)) (p := 4294967295 < ((((first5.toNat + keys6.length) : Nat) : Int) - 1)) rfl rfl rfl rfl icmp_gt ?_
    refine Plan.nil ?_
    refine hK13 _ _ ?_; clear hK13
    by_cases hc16 : 4294967295 < ((((first5.toNat + keys6.length) : Nat) : Int) - 1)
    ·
      replace hR := ifT hR hc16
      refine W.condT (congrArg Value.bool (decide_eq_true hc16)) ?_
      refine W.seq_k fun K17 hK17 => ?_
      refine W.regionT [(0, true)] (by kernel_rfl) ?_
      refine Plan.assign_int rfl rfl ?_
      refine Plan.nil ?_
      refine hK17 _ _ ?_; clear hK17
      refine W.ret (thenR_ret (finR_ret ?_))
      subst r
      refine RetOk.mk (.tmp_int rfl .nil) ?_
      exact ⟨atList2, ptList2, tList2.length, ctList2, FtList2, rfl, HST, htList2⟩
    ·
      replace hR := ifF hR hc16
      refine W.condF (congrArg Value.bool (decide_eq_false hc16)) ?_
      refine W.skip ?_
      refine hK12 _ _ ?_; clear hK12
      refine W.seq_k fun K18 hK18 => ?_
      refine W.seq_k fun K19 hK19 => ?_
      refine W.regionT [(0, true)] (by kernel_rfl) ?_
      refine Plan.assign_int rfl rfl ?_
      refine Plan.nil ?_
      refine hK19 _ _ ?_; clear hK19
      obtain ⟨x45, hI45, hR045⟩ := hR
      refine W.cutN (fun e w => x45 = some () ∧ EnvHas e [(0, .pointer (some ⟨bt1, 0, none⟩)), (1, VU .u32 turn4), (2, VU .u32 first5), (3, .slice akeys6 keys6.length ckeys6)] ∧ St B w0 (⟨some bt1, 0, 1, fun _ => .slice atList2 tList2.length ctList2, true⟩ :: ⟨ptList2, 0, ctList2 * 34, FtList2, true⟩ :: ⟨some bt1, 1, 1, fun _ => .int .i64 tMost3, true⟩ :: L) w) ?_ ?_
      ·
        refine W.block ?_
        refine W.iter hI45 (fun (s45 : Nat) e w => EnvHas e [(0, .pointer (some ⟨bt1, 0, none⟩)), (1, VU .u32 turn4), (2, VU .u32 first5), (3, .slice akeys6 keys6.length ckeys6), (9, VN s45)] ∧ St B w0 (⟨some bt1, 0, 1, fun _ => .slice atList2 tList2.length ctList2, true⟩ :: ⟨ptList2, 0, ctList2 * 34, FtList2, true⟩ :: ⟨some bt1, 1, 1, fun _ => .int .i64 tMost3, true⟩ :: L) w) ⟨(EnvHas.cons rfl (EnvHas.cons rfl (EnvHas.cons rfl (EnvHas.cons rfl (EnvHas.cons rfl EnvHas.nil))))), HST⟩ ?_
        rintro i_44 o45 hR hx45 ev46 wl46 ⟨he46, h46⟩
        obtain ⟨ev46, rfl⟩ := he46.open
        unfold letheref15_Table_Add_l0 at hR
        refine W.seq_k fun K47 hK47 => ?_
        refine W.seq_k fun K48 hK48 => ?_
        refine W.regionT [(0, true), (1, true), (2, true), (3, true)] (by kernel_rfl) ?_
        refine Plan.move_int rfl rfl ?_
        refine Plan.move_slice rfl rfl ?_
        refine Plan.len FRef15.isl66 rfl rfl ?_
        refine Plan.cmpP (a := (((i_44 : Nat) : Int) : Int)) (b := (((keys6.length : Nat) : Int) : Int)) (p := i_44 < keys6.length) rfl rfl rfl rfl icmp_ltN ?_
        refine Plan.nil ?_
        refine hK48 _ _ ?_; clear hK48
        by_cases hc49 : i_44 < keys6.length
        ·
          replace hR := ifT hR hc49
          refine W.condT (congrArg Value.bool (decide_eq_true hc49)) ?_
          refine W.skip ?_
          refine hK47 _ _ ?_; clear hK47
          refine W.seq_k fun K50 hK50 => ?_
          refine W.block ?_
          refine W.seq_k fun K51 hK51 => ?_
          refine W.regionT [(0, true), (1, true), (2, true), (3, true), (4, true), (5, true), (6, false), (7, true)] (by kernel_rfl) ?_
          refine Plan.move_ptr rfl rfl ?_
          refine Plan.move_int rfl rfl ?_
          refine Plan.move_int rfl rfl ?_
          refine Plan.move_int rfl rfl ?_
          refine Plan.convNU .u32 (a := i_44) FRef15.u73 FRef15.some3 rfl rfl ?_
          refine Plan.addU .u32 (X := first5) (Y := (BitVec.ofNat 32 i_44)) rfl rfl rfl ?_
          have h52 := St.pickT (C := [_, _, _]) h46 [0, 2, 1] (by decide)
          simp only [pick, List.filterMap_cons, List.filterMap_nil, List.getElem?_cons_zero, List.getElem?_cons_succ, List.cons_append, List.nil_append] at h52
          obtain ⟨x_54, hr53, hR⟩ := hR
          refine Plan.call (vs := [.pointer (some ⟨bt1, 0, none⟩), VU .u32 turn4, VU .u32 (first5 + (BitVec.ofNat 32 i_44))]) rfl FRef15.call98 rfl (letheref15_Table_at_ok (by exact (LO.lvf D81_flat htList2 0 rfl)) hr53 h52) ?_
          rintro _ w55 ⟨rfl, h55⟩
          refine ⟨_, rfl, .inl ⟨PIn.keep (by exact PIn.nil) h55, ?_⟩⟩
          refine Plan.cmpP (a := (x_54 : Int)) (b := (0 : Int)) (p := 0 ≤ x_54) rfl rfl rfl rfl icmp_ge ?_
          refine Plan.nil ?_
          refine hK51 _ _ ?_; clear hK51
          by_cases hc56 : 0 ≤ x_54
          ·
            replace hR := ifT hR hc56
            refine W.condT (congrArg Value.bool (decide_eq_true hc56)) ?_
            refine W.seq_k fun K57 hK57 => ?_
            refine W.regionT [(0, true)] (by kernel_rfl) ?_
            refine Plan.assign_int rfl rfl ?_
            refine Plan.nil ?_
            refine hK57 _ _ ?_; clear hK57
            refine W.ret (blockR_ret (thenR_ret (iterR_ret (blockR_ret (thenR_ret (thenR_ret (finR_ret ?_)))))))
            have h58 := St.pickT (C := [_, _, _]) h55 [0, 2, 1] (by decide)
            simp only [pick, List.filterMap_cons, List.filterMap_nil, List.getElem?_cons_zero, List.getElem?_cons_succ, List.cons_append, List.nil_append] at h58
            replace hR := hR.2
            subst r
            refine RetOk.mk (.tmp_int rfl .nil) ?_
            exact ⟨atList2, ptList2, tList2.length, ctList2, FtList2, rfl, h58, htList2⟩
          ·
            replace hR := ifF hR hc56
            refine W.condF (congrArg Value.bool (decide_eq_false hc56)) ?_
            refine W.skip ?_
            refine blockR_norm ?_
            refine hK50 _ _ ?_; clear hK50
            refine W.regionT [(0, true), (1, true), (2, true)] (by kernel_rfl) ?_
            refine Plan.move_int rfl rfl ?_
            obtain ⟨hc59, hR⟩ := hR
            refine Plan.addN (a := i_44) (b := 1) rfl rfl rfl (by omega) ?_
            refine Plan.assign_int rfl rfl ?_
            refine Plan.nil ?_
            have h60 := St.pickT (C := [_, _, _]) h55 [0, 2, 1] (by decide)
            simp only [pick, List.filterMap_cons, List.filterMap_nil, List.getElem?_cons_zero, List.getElem?_cons_succ, List.cons_append, List.nil_append] at h60
            exact iterR_norm ⟨_, hR, (EnvHas.cons rfl (EnvHas.cons rfl (EnvHas.cons rfl (EnvHas.cons rfl (EnvHas.cons rfl EnvHas.nil))))), h60⟩
        ·
          replace hR := ifF hR hc49
          refine W.condF (congrArg Value.bool (decide_eq_false hc49)) ?_
          refine W.exit (thenR_exit (iterR_exit (blockR_here ?_)))
          exact ⟨(hx45 _ hR).symm, (EnvHas.cons rfl (EnvHas.cons rfl (EnvHas.cons rfl (EnvHas.cons rfl EnvHas.nil)))), h46⟩
      ·
        rintro ev61 wl61 ⟨hy61, he61, h61⟩
        obtain ⟨ev61, rfl⟩ := he61.open
        replace hR := hR045  hy61
        refine hK18 _ _ ?_; clear hK18
        refine W.seq_k fun K62 hK62 => ?_
        refine W.seq_k fun K63 hK63 => ?_
        refine W.regionD FRef15.mixed [(0, true), (1, true), (2, true), (3, true), (4, true), (5, true), (6, true), (7, true), (8, true), (9, true), (10, true), (11, true), (12, true)] (by kernel_rfl) ?_
        have h64 := h61.drew
        refine Plan.move_ptr rfl rfl ?_
        refine Plan.nilCheck rfl rfl ?_
        refine Plan.fieldAddr0 FRef15.fld152_0 rfl rfl ?_
        refine Plan.load0 h64 0 rfl rfl rfl (by omega) FRef15.sc78 ?_
        refine Plan.len FRef15.isl78 rfl rfl ?_
        refine Plan.move_slice rfl rfl ?_
        refine Plan.len FRef15.isl66 rfl rfl ?_
        obtain ⟨hc65, hR⟩ := hR
        refine Plan.addN (a := tList2.length) (b := keys6.length) rfl rfl rfl (by omega) ?_
        refine Plan.move_ptr rfl rfl ?_
        refine Plan.nilCheck rfl rfl ?_
        refine Plan.fieldAddr 1 FRef15.fld152_1 rfl rfl ?_
        refine Plan.load0 h64 2 rfl rfl rfl (by omega) FRef15.sc3 ?_
        refine Plan.cmpP (a := ((((tList2.length + keys6.length) : Nat) : Int) : Int)) (b := (tMost3 : Int)) (p := tMost3 < (((tList2.length + keys6.length) : Nat) : Int)) rfl rfl rfl rfl icmp_gt ?_
        refine Plan.nil ?_
        refine hK63 _ _ ?_; clear hK63
        by_cases hc66 : tMost3 < (((tList2.length + keys6.length) : Nat) : Int)
        ·
          replace hR := ifT hR hc66
          refine W.condT (congrArg Value.bool (decide_eq_true hc66)) ?_
          refine W.seq_k fun K67 hK67 => ?_
          refine W.regionT [(0, true)] (by kernel_rfl) ?_
          refine Plan.assign_int rfl rfl ?_
          refine Plan.nil ?_
          refine hK67 _ _ ?_; clear hK67
          refine W.ret (thenR_ret (finR_ret ?_))
          subst r
          refine RetOk.mk (.tmp_int rfl .nil) ?_
          exact ⟨atList2, ptList2, tList2.length, ctList2, FtList2, rfl, h64, htList2⟩
        ·
          replace hR := ifF hR hc66
          refine W.condF (congrArg Value.bool (decide_eq_false hc66)) ?_
          refine W.skip ?_
          refine hK62 _ _ ?_; clear hK62
          refine W.seq_k fun K68 hK68 => ?_
          refine W.seq_k fun K69 hK69 => ?_
          refine W.regionT [(0, true)] (by kernel_rfl) ?_
          refine Plan.assign_int rfl rfl ?_
          refine Plan.nil ?_
          refine hK69 _ _ ?_; clear hK69
          obtain ⟨m104, hI105, hR0105⟩ := hR
          refine W.cutN (fun e w => ∃ y_m104 : List ((BitVec 32) × (BitVec 32) × (Nat → BitVec 8)), m104 = y_m104 ∧ ∃ n_m104 : Nat, ∃ am104 : Option Addr, ∃ pm104 : Option Nat, ∃ cm104 : Nat, ∃ Fm104 : Nat → Value, EnvHas e [] ∧ St B w0 (⟨pm104, 0, cm104 * 34, Fm104, true⟩ :: ⟨some bt1, 0, 1, fun _ => .slice am104 n_m104 cm104, true⟩ :: ⟨some bt1, 1, 1, fun _ => .int .i64 tMost3, true⟩ :: L) w ∧ LO D81 [] am104 pm104 n_m104 cm104 Fm104 y_m104) ?_ ?_
          ·
            refine W.block ?_
            have h106 := St.pickT (C := [_, _, _]) h64 [1, 0, 2] (by decide)
            simp only [pick, List.filterMap_cons, List.filterMap_nil, List.getElem?_cons_zero, List.getElem?_cons_succ, List.cons_append, List.nil_append] at h106
            refine W.iter hI105 (fun (s105 : (Nat × (List ((BitVec 32) × (BitVec 32) × (Nat → BitVec 8))))) e w => ∃ n_m103 : Nat, ∃ am103 : Option Addr, ∃ pm103 : Option Nat, ∃ cm103 : Nat, ∃ Fm103 : Nat → Value, EnvHas e [(0, .pointer (some ⟨bt1, 0, none⟩)), (1, VU .u32 turn4), (2, VU .u32 first5), (3, .slice akeys6 keys6.length ckeys6), (10, VN s105.1)] ∧ St B w0 (⟨pm103, 0, cm103 * 34, Fm103, true⟩ :: ⟨some bt1, 0, 1, fun _ => .slice am103 n_m103 cm103, true⟩ :: ⟨some bt1, 1, 1, fun _ => .int .i64 tMost3, true⟩ :: L) w ∧ LO D81 [] am103 pm103 n_m103 cm103 Fm103 s105.2) ⟨tList2.length, atList2, ptList2, ctList2, FtList2, (EnvHas.cons rfl (EnvHas.cons rfl (EnvHas.cons rfl (EnvHas.cons rfl (EnvHas.cons rfl EnvHas.nil))))), h106, htList2⟩ ?_
            rintro ⟨i_102, m103⟩ o105 hR hx105 ev107 wl107 ⟨n_m103, am103, pm103, cm103, Fm103, he107, h107, hm103⟩
            try dsimp only at he107 h107 hm103
            obtain rfl : List.length (α := ((BitVec 32) × (BitVec 32) × (Nat → BitVec 8))) m103 = n_m103 := hm103.hl
            obtain ⟨ev107, rfl⟩ := he107.open
            unfold letheref15_Table_Add_l1 at hR
            refine W.seq_k fun K108 hK108 => ?_
            refine W.seq_k fun K109 hK109 => ?_
            refine W.regionT [(0, true), (1, true), (2, true), (3, true)] (by kernel_rfl) ?_
            refine Plan.move_int rfl rfl ?_
            refine Plan.move_slice rfl rfl ?_
            refine Plan.len FRef15.isl66 rfl rfl ?_
            refine Plan.cmpP (a := (((i_102 : Nat) : Int) : Int)) (b := (((keys6.length : Nat) : Int) : Int)) (p := i_102 < keys6.length) rfl rfl rfl rfl icmp_ltN ?_
            refine Plan.nil ?_
            refine hK109 _ _ ?_; clear hK109
            by_cases hc110 : i_102 < keys6.length
            ·
              replace hR := ifT hR hc110
              refine W.condT (congrArg Value.bool (decide_eq_true hc110)) ?_
              refine W.skip ?_
              refine hK108 _ _ ?_; clear hK108
              refine W.seq_k fun K111 hK111 => ?_
              refine W.block ?_
              refine W.regionT [(0, true), (1, true), (2, true), (3, true), (4, true), (5, true), (6, true), (7, true), (8, true), (9, true), (10, true), (11, false)] (by kernel_rfl) ?_
              refine Plan.move_ptr rfl rfl ?_
              refine Plan.move_int rfl rfl ?_
              refine Plan.move_int rfl rfl ?_
              refine Plan.move_int rfl rfl ?_
              refine Plan.convNU .u32 (a := i_102) FRef15.u73 FRef15.some3 rfl rfl ?_
              refine Plan.addU .u32 (X := first5) (Y := (BitVec.ofNat 32 i_102)) rfl rfl rfl ?_
              refine Plan.move_slice rfl rfl ?_
              refine Plan.move_int rfl rfl ?_
              obtain ⟨hc112, hR⟩ := hR
              refine Plan.idxLVS (D := D71) (j := i_102) h107 (hkeys6.app [_, _, _]) FRef15.sl66 rfl rfl rfl hc112 ?_
              refine Plan.loadLV (D := D71) (X := keys6) (j := i_102) (sz := 32) h107 (fun _ => 0#8) (hkeys6.app [_, _, _]) rfl rfl hc112 rfl FRef15.agg71 fun b113 r113 hs113 hr113 => ?_
              refine Plan.buildP (ps := [(1, fun _ => VU .u32 turn4), (1, fun _ => VU .u32 (first5 + (BitVec.ofNat 32 i_102))), (32, fun q => VU .u8 ((keys6.getD i_102 (fun _ => 0#8)) q))]) FRef15.pl81 (by decide) FRef15.z81 rfl rfl (.one [] [(1, fun _ => VU .u32 (0#32)), (32, fun q => VU .u8 ((fun _ => 0#8) q))] (fun _ => VU .u32 (0#32)) rfl rfl (.one [(1, fun _ => VU .u32 turn4)] [(32, fun q => VU .u8 ((fun _ => 0#8) q))] (fun _ => VU .u32 (0#32)) rfl rfl (.agg [(1, fun _ => VU .u32 turn4), (1, fun _ => VU .u32 (first5 + (BitVec.ofNat 32 i_102)))] [(32, fun q => VU .u8 ((fun _ => 0#8) q))] [] [(32, fun q => VU .u8 ((keys6.getD i_102 (fun _ => 0#8)) q))] rfl rfl .nil))) ?_
              have h114 := St.pickT (C := [_, _, _]) h107 [1, 0, 2] (by decide)
              simp only [pick, List.filterMap_cons, List.filterMap_nil, List.getElem?_cons_zero, List.getElem?_cons_succ, List.cons_append, List.nil_append] at h114
              obtain ⟨x_116, hr115, hR⟩ := hR
              refine Plan.call (vs := [.pointer (some ⟨bt1, 0, none⟩), AG [(1, fun _ => VU .u32 turn4), (1, fun _ => VU .u32 (first5 + (BitVec.ofNat 32 i_102))), (32, fun q => VU .u8 ((keys6.getD i_102 (fun _ => 0#8)) q))]]) rfl FRef15.call99 rfl (letheref15_Table_put_ok (by exact hm103) hr115 h114) ?_
              rintro _ w122 ⟨aqtList2_117, pqtList2_118, nqtList2_119, cqtList2_120, FqtList2_121, rfl, h122, hf122_0⟩
              obtain rfl := hf122_0.hl
              refine ⟨_, rfl, .inl ⟨PIn.keep (by exact (PIn.cons (ikeys6 + 3) hr113 PIn.nil)) h122, ?_⟩⟩
              refine Plan.nil ?_
              refine blockR_norm ?_
              refine hK111 _ _ ?_; clear hK111
              refine W.regionT [(0, true), (1, true), (2, true)] (by kernel_rfl) ?_
              refine Plan.move_int rfl rfl ?_
              obtain ⟨hc123, hR⟩ := hR
              refine Plan.addN (a := i_102) (b := 1) rfl rfl rfl (by omega) ?_
              refine Plan.assign_int rfl rfl ?_
              refine Plan.nil ?_
              have h124 := St.pickT (C := [_, _, _]) h122 [1, 0, 2] (by decide)
              simp only [pick, List.filterMap_cons, List.filterMap_nil, List.getElem?_cons_zero, List.getElem?_cons_succ, List.cons_append, List.nil_append] at h124
              exact iterR_norm ⟨_, hR, x_116.length, aqtList2_117, pqtList2_118, cqtList2_120, FqtList2_121, (EnvHas.cons rfl (EnvHas.cons rfl (EnvHas.cons rfl (EnvHas.cons rfl (EnvHas.cons rfl EnvHas.nil))))), h124, hf122_0⟩
            ·
              replace hR := ifF hR hc110
              refine W.condF (congrArg Value.bool (decide_eq_false hc110)) ?_
              refine W.exit (thenR_exit (iterR_exit (blockR_here ?_)))
              exact ⟨m103, (hx105 _ hR).symm, m103.length, am103, pm103, cm103, Fm103, EnvHas.nil, h107, hm103⟩
          ·
            rintro ev125 wl125 ⟨y_m104, hy125, n_m104, am104, pm104, cm104, Fm104, he125, h125, hm104⟩
            obtain ⟨ev125, rfl⟩ := he125.open
            subst hy125
            replace hR := hR0105
            obtain rfl : List.length (α := ((BitVec 32) × (BitVec 32) × (Nat → BitVec 8))) m104 = n_m104 := hm104.hl
            refine hK68 _ _ ?_; clear hK68
            refine W.seq_k fun K126 hK126 => ?_
            refine W.regionT [(0, true)] (by kernel_rfl) ?_
            refine Plan.assign_int rfl rfl ?_
            refine Plan.nil ?_
            refine hK126 _ _ ?_; clear hK126
            refine W.ret (finR_ret ?_)
            have h127 := St.pickT (C := [_, _, _]) h125 [1, 0, 2] (by decide)
            simp only [pick, List.filterMap_cons, List.filterMap_nil, List.getElem?_cons_zero, List.getElem?_cons_succ, List.cons_append, List.nil_append] at h127
            subst r
            refine RetOk.mk (.tmp_int rfl .nil) ?_
            exact ⟨am104, pm104, m104.length, cm104, Fm104, rfl, h127, hm104⟩


set_option maxRecDepth 8000 in
set_option maxHeartbeats 1000000 in
theorem letheref15_Table_Find_ok {B : Nat} {w0 : Base} {w : World} {L : List Rg} {bt1 : Nat} {tList2 : List ((BitVec 32) × (BitVec 32) × (Nat → BitVec 8))} {atList2 : Option Addr} {ntList2 ctList2 itList2 : Nat} (htList2 : LV D81 L itList2 atList2 ntList2 ctList2 tList2) {tMost3 : Int} {turn4 : BitVec 32} {n_5 : BitVec 32} {r : ((Nat → BitVec 8) × Nat)} (hR : letheref15_Table_Find tList2 tMost3 turn4 n_5 r) (HST : St B w0 (⟨some bt1, 0, 1, fun _ => .slice atList2 ntList2 ctList2, true⟩ :: ⟨some bt1, 1, 1, fun _ => .int .i64 tMost3, true⟩ :: L) w) :
    Calls Try.prog 81 #[.pointer (some ⟨bt1, 0, none⟩), VU .u32 turn4, VU .u32 n_5] w fun e w' => e = .returned (.tuple #[AG [(32, fun q => VU .u8 (r.1 q))], VN r.2]) ∧ St B w0 (⟨some bt1, 0, 1, fun _ => .slice atList2 ntList2 ctList2, true⟩ :: ⟨some bt1, 1, 1, fun _ => .int .i64 tMost3, true⟩ :: L) w' := by
  refine W.enter 24 Try.func81 rfl rfl rfl ?_
  unfold letheref15_Table_Find at hR
  have etList2 := htList2.hl; subst etList2
  refine W.seq_k fun K6 hK6 => ?_
  refine W.regionT [(0, false), (1, true)] (by kernel_rfl) ?_
  refine Plan.alloc HST rfl FRef15.z71 PIn.nil fun b7 w7 hb7 h7 => ?_
  simp only [rngs, Nat.zero_add, Nat.reduceAdd, List.cons_append, List.nil_append] at h7
  refine Plan.assign_int rfl rfl ?_
  refine Plan.nil ?_
  refine hK6 _ _ ?_; clear hK6
  refine W.seq_k fun K8 hK8 => ?_
  refine W.regionT [(0, true), (1, true), (2, true), (3, false), (4, true)] (by kernel_rfl) ?_
  refine Plan.move_ptr rfl rfl ?_
  refine Plan.move_int rfl rfl ?_
  refine Plan.move_int rfl rfl ?_
  have h9 := St.pickT (C := [_, _, _]) h7 [1, 2, 0] (by decide)
  simp only [pick, List.filterMap_cons, List.filterMap_nil, List.getElem?_cons_zero, List.getElem?_cons_succ, List.cons_append, List.nil_append] at h9
  obtain ⟨x_11, hr10, hR⟩ := hR
  refine Plan.call (vs := [.pointer (some ⟨bt1, 0, none⟩), VU .u32 turn4, VU .u32 n_5]) rfl FRef15.call98 rfl (letheref15_Table_at_ok (by exact (htList2.app [_])) hr10 h9) ?_
  rintro _ w12 ⟨rfl, h12⟩
  refine ⟨_, rfl, .inl ⟨PIn.keep (by exact PIn.nil) h12, ?_⟩⟩
  refine Plan.assign_int rfl rfl ?_
  refine Plan.nil ?_
  refine hK8 _ _ ?_; clear hK8
  refine W.seq_k fun K13 hK13 => ?_
  refine W.seq_k fun K14 hK14 => ?_
  refine W.regionT [(0, true), (1, true)] (by kernel_rfl) ?_
  refine Plan.move_int rfl rfl ?_
  refine Plan.cmpP (a := (x_11 : Int)) (b := (0 : Int)) (p := x_11 < 0) rfl rfl rfl rfl icmp_lt ?_
  refine Plan.nil ?_
  refine hK14 _ _ ?_; clear hK14
  by_cases hc15 : x_11 < 0
  ·
    replace hR := ifT hR hc15
    refine W.condT (congrArg Value.bool (decide_eq_true hc15)) ?_
    refine W.seq_k fun K16 hK16 => ?_
    refine W.regionT [(0, true), (1, false), (2, true)] (by kernel_rfl) ?_
    refine Plan.buildZ FRef15.row71 FRef15.z71 rfl ?_
    refine Plan.storeA (f' := fun q => VU .u8 ((fun _ => 0#8) q)) h12 2 rfl rfl rfl rfl (fun _ _ => rfl) FRef15.sz71 rfl fun w17 h17 => ?_
    simp only [List.cons_append, List.nil_append, List.set_cons_zero, List.set_cons_succ] at h17
    refine Plan.assign_int rfl rfl ?_
    refine Plan.nil ?_
    refine hK16 _ _ ?_; clear hK16
    refine W.ret (thenR_ret (finR_ret ?_))
    have h18 := St.pickT (C := [_, _, _]) h17 [0, 1] (by decide)
    simp only [pick, List.filterMap_cons, List.filterMap_nil, List.getElem?_cons_zero, List.getElem?_cons_succ, List.cons_append, List.nil_append] at h18
    subst r
    refine RetOk.mk (.agg h17 rfl (.cons 2 rfl .nil) FRef15.agg71 (.tmp_int rfl .nil)) ?_
    exact ⟨rfl, h18⟩
  ·
    replace hR := ifF hR hc15
    refine W.condF (congrArg Value.bool (decide_eq_false hc15)) ?_
    refine W.skip ?_
    refine hK13 _ _ ?_; clear hK13
    refine W.seq_k fun K19 hK19 => ?_
    refine W.regionT [(0, true), (1, true), (2, true), (3, true), (4, true), (5, true), (6, true), (7, true), (8, false), (9, true)] (by kernel_rfl) ?_
    refine Plan.move_ptr rfl rfl ?_
    refine Plan.nilCheck rfl rfl ?_
    refine Plan.fieldAddr0 FRef15.fld152_0 rfl rfl ?_
    refine Plan.load0 h12 0 rfl rfl rfl (by omega) FRef15.sc78 ?_
    refine Plan.move_int rfl rfl ?_
    obtain ⟨hc20, hR⟩ := hR
    refine Plan.idxLVS (D := D81) (j := x_11.toNat) h12 (htList2.app [_, _, _]) FRef15.sl78 rfl rfl (congrArg (Value.int .i64) (Int.toNat_of_nonneg hc20.1).symm) (toNat_lt hc20.1 hc20.2) ?_
    refine Plan.fieldLV (D := D81) (j := x_11.toNat) (sz := 34) h12 2 (htList2.app [_, _, _]) (toNat_lt hc20.1 hc20.2) FRef15.fld81_2 rfl rfl ?_
    refine Plan.loadLVg (D := D81) (X := tList2) (j := x_11.toNat) (sz := 34) (off := 2) (m := 32) h12 (0#32, 0#32, (fun _ => 0#8)) (fun b x => [(32, fun q => VU .u8 (x.2.2 q))]) (htList2.app [_, _, _]) rfl rfl (toNat_lt hc20.1 hc20.2) rfl (by decide) (fun _ _ => rfl) FRef15.agg71 fun b21 r21 hs21 hr21 => ?_
    refine Plan.storeA (f' := fun q => VU .u8 (((tList2.getD x_11.toNat (0#32, 0#32, (fun _ => 0#8))).2.2) q)) h12 2 rfl rfl rfl rfl (fun _ _ => rfl) FRef15.sz71 rfl fun w22 h22 => ?_
    simp only [List.cons_append, List.nil_append, List.set_cons_zero, List.set_cons_succ] at h22
    refine Plan.assign_int rfl rfl ?_
    refine Plan.nil ?_
    refine hK19 _ _ ?_; clear hK19
    refine W.ret (finR_ret ?_)
    have h23 := St.pickT (C := [_, _, _]) h22 [0, 1] (by decide)
    simp only [pick, List.filterMap_cons, List.filterMap_nil, List.getElem?_cons_zero, List.getElem?_cons_succ, List.cons_append, List.nil_append] at h23
    subst r
    refine RetOk.mk (.agg h22 rfl (.cons 2 rfl .nil) FRef15.agg71 (.tmp_int rfl .nil)) ?_
    exact ⟨rfl, h23⟩


set_option maxRecDepth 8000 in
set_option maxHeartbeats 1000000 in
theorem letheref15_Table_Take_ok {B : Nat} {w0 : Base} {w : World} {L : List Rg} {bt1 : Nat} {tList2 : List ((BitVec 32) × (BitVec 32) × (Nat → BitVec 8))} {atList2 : Option Addr} {ptList2 : Option Nat} {ntList2 ctList2 : Nat} {FtList2 : Nat → Value} (htList2 : LO D81 [] atList2 ptList2 ntList2 ctList2 FtList2 tList2) {tMost3 : Int} {turn4 : BitVec 32} {n_5 : BitVec 32} {r : ((Nat → BitVec 8) × Nat × (List ((BitVec 32) × (BitVec 32) × (Nat → BitVec 8))))} (hR : letheref15_Table_Take tList2 tMost3 turn4 n_5 r) (HST : St B w0 (⟨some bt1, 0, 1, fun _ => .slice atList2 ntList2 ctList2, true⟩ :: ⟨ptList2, 0, ctList2 * 34, FtList2, true⟩ :: ⟨some bt1, 1, 1, fun _ => .int .i64 tMost3, true⟩ :: L) w) :
    Calls Try.prog 82 #[.pointer (some ⟨bt1, 0, none⟩), VU .u32 turn4, VU .u32 n_5] w fun e w' => ∃ aqtList2 : Option Addr, ∃ pqtList2 : Option Nat, ∃ nqtList2 : Nat, ∃ cqtList2 : Nat, ∃ FqtList2 : Nat → Value, e = .returned (.tuple #[AG [(32, fun q => VU .u8 (r.1 q))], VN r.2.1]) ∧ St B w0 (⟨some bt1, 0, 1, fun _ => .slice aqtList2 nqtList2 cqtList2, true⟩ :: ⟨pqtList2, 0, cqtList2 * 34, FqtList2, true⟩ :: ⟨some bt1, 1, 1, fun _ => .int .i64 tMost3, true⟩ :: L) w' ∧ LO D81 [] aqtList2 pqtList2 nqtList2 cqtList2 FqtList2 r.2.2 := by
  refine W.enter 48 Try.func82 rfl rfl rfl ?_
  unfold letheref15_Table_Take at hR
  have etList2 := htList2.hl; subst etList2
  refine W.seq_k fun K6 hK6 => ?_
  refine W.regionT [(0, false), (1, true)] (by kernel_rfl) ?_
  refine Plan.alloc HST rfl FRef15.z71 PIn.nil fun b7 w7 hb7 h7 => ?_
  simp only [rngs, Nat.zero_add, Nat.reduceAdd, List.cons_append, List.nil_append] at h7
  refine Plan.assign_int rfl rfl ?_
  refine Plan.nil ?_
  refine hK6 _ _ ?_; clear hK6
  refine W.seq_k fun K8 hK8 => ?_
  refine W.regionT [(0, true), (1, true), (2, true), (3, false), (4, true)] (by kernel_rfl) ?_
  refine Plan.move_ptr rfl rfl ?_
  refine Plan.move_int rfl rfl ?_
  refine Plan.move_int rfl rfl ?_
  have h9 := St.pickT (C := [_, _, _, _]) h7 [1, 3, 0, 2] (by decide)
  simp only [pick, List.filterMap_cons, List.filterMap_nil, List.getElem?_cons_zero, List.getElem?_cons_succ, List.cons_append, List.nil_append] at h9
  obtain ⟨x_11, hr10, hR⟩ := hR
  refine Plan.call (vs := [.pointer (some ⟨bt1, 0, none⟩), VU .u32 turn4, VU .u32 n_5]) rfl FRef15.call98 rfl (letheref15_Table_at_ok (by exact (LO.lvf D81_flat htList2 1 rfl)) hr10 h9) ?_
  rintro _ w12 ⟨rfl, h12⟩
  refine ⟨_, rfl, .inl ⟨PIn.keep (by exact PIn.nil) h12, ?_⟩⟩
  refine Plan.assign_int rfl rfl ?_
  refine Plan.nil ?_
  refine hK8 _ _ ?_; clear hK8
  refine W.seq_k fun K13 hK13 => ?_
  refine W.seq_k fun K14 hK14 => ?_
  refine W.regionT [(0, true), (1, true)] (by kernel_rfl) ?_
  refine Plan.move_int rfl rfl ?_
  refine Plan.cmpP (a := (x_11 : Int)) (b := (0 : Int)) (p := x_11 < 0) rfl rfl rfl rfl icmp_lt ?_
  refine Plan.nil ?_
  refine hK14 _ _ ?_; clear hK14
  by_cases hc15 : x_11 < 0
  ·
    replace hR := ifT hR hc15
    refine W.condT (congrArg Value.bool (decide_eq_true hc15)) ?_
    refine W.seq_k fun K16 hK16 => ?_
    refine W.regionT [(0, true), (1, false), (2, true)] (by kernel_rfl) ?_
    refine Plan.buildZ FRef15.row71 FRef15.z71 rfl ?_
    refine Plan.storeA (f' := fun q => VU .u8 ((fun _ => 0#8) q)) h12 2 rfl rfl rfl rfl (fun _ _ => rfl) FRef15.sz71 rfl fun w17 h17 => ?_
    simp only [List.cons_append, List.nil_append, List.set_cons_zero, List.set_cons_succ] at h17
    refine Plan.assign_int rfl rfl ?_
    refine Plan.nil ?_
    refine hK16 _ _ ?_; clear hK16
    refine W.ret (thenR_ret (finR_ret ?_))
    have h18 := St.pickT (C := [_, _, _, _]) h17 [0, 3, 1] (by decide)
    simp only [pick, List.filterMap_cons, List.filterMap_nil, List.getElem?_cons_zero, List.getElem?_cons_succ, List.cons_append, List.nil_append] at h18
    subst r
    refine RetOk.mk (.agg h17 rfl (.cons 2 rfl .nil) FRef15.agg71 (.tmp_int rfl .nil)) ?_
    exact ⟨atList2, ptList2, tList2.length, ctList2, FtList2, rfl, h18, htList2⟩
  ·
    replace hR := ifF hR hc15
    refine W.condF (congrArg Value.bool (decide_eq_false hc15)) ?_
    refine W.skip ?_
    refine hK13 _ _ ?_; clear hK13
    refine W.seq_k fun K19 hK19 => ?_
    refine W.regionT [(0, true), (1, true), (2, true), (3, true), (4, true), (5, true), (6, true), (7, true), (8, false), (9, false)] (by kernel_rfl) ?_
    refine Plan.move_ptr rfl rfl ?_
    refine Plan.nilCheck rfl rfl ?_
    refine Plan.fieldAddr0 FRef15.fld152_0 rfl rfl ?_
    refine Plan.load0 h12 0 rfl rfl rfl (by omega) FRef15.sc78 ?_
    refine Plan.move_int rfl rfl ?_
    obtain ⟨hc20, hR⟩ := hR
    refine Plan.idxLVS (D := D81) (j := x_11.toNat) h12 (LO.lvf D81_flat htList2 3 rfl) FRef15.sl78 rfl rfl (congrArg (Value.int .i64) (Int.toNat_of_nonneg hc20.1).symm) (toNat_lt hc20.1 hc20.2) ?_
    refine Plan.fieldLV (D := D81) (j := x_11.toNat) (sz := 34) h12 2 (LO.lvf D81_flat htList2 3 rfl) (toNat_lt hc20.1 hc20.2) FRef15.fld81_2 rfl rfl ?_
    refine Plan.loadLVg (D := D81) (X := tList2) (j := x_11.toNat) (sz := 34) (off := 2) (m := 32) h12 (0#32, 0#32, (fun _ => 0#8)) (fun b x => [(32, fun q => VU .u8 (x.2.2 q))]) (LO.lvf D81_flat htList2 3 rfl) rfl rfl (toNat_lt hc20.1 hc20.2) rfl (by decide) (fun _ _ => rfl) FRef15.agg71 fun b21 r21 hs21 hr21 => ?_
    refine Plan.alloc h12 rfl FRef15.z71 (PIn.cons 3 hr21 (PIn.cons 0 rfl PIn.nil)) fun b22 w22 hb22 h22 => ?_
    simp only [rngs, Nat.zero_add, Nat.reduceAdd, List.cons_append, List.nil_append] at h22
    refine Plan.storeA (f' := fun q => VU .u8 (((tList2.getD x_11.toNat (0#32, 0#32, (fun _ => 0#8))).2.2) q)) h22 0 rfl rfl rfl rfl (fun _ _ => rfl) FRef15.sz71 rfl fun w23 h23 => ?_
    simp only [List.cons_append, List.nil_append, List.set_cons_zero, List.set_cons_succ] at h23
    refine Plan.nil ?_
    refine hK19 _ _ ?_; clear hK19
    refine W.seq_k fun K24 hK24 => ?_
    refine W.regionT [(0, true)] (by kernel_rfl) ?_
    refine Plan.assign_slice rfl rfl ?_
    refine Plan.nil ?_
    refine hK24 _ _ ?_; clear hK24
    refine W.seq_k fun K25 hK25 => ?_
    refine W.regionT [(0, true), (1, true), (2, true), (3, true), (4, true), (5, true), (6, true), (7, false), (8, true)] (by kernel_rfl) ?_
    refine Plan.move_slice rfl rfl ?_
    refine Plan.move_ptr rfl rfl ?_
    refine Plan.nilCheck rfl rfl ?_
    refine Plan.fieldAddr0 FRef15.fld152_0 rfl rfl ?_
    refine Plan.load0 h23 1 rfl rfl rfl (by omega) FRef15.sc78 ?_
    refine Plan.move_int rfl rfl ?_
    obtain ⟨hc26, hR⟩ := hR
    obtain ⟨hc27, hR⟩ := hR
    have hm28 : tList2.length ≤ ctList2 := htList2.hc
    refine Plan.slSl0 (hi := x_11.toNat) FRef15.sl78 rfl rfl rfl ⟨_, congrArg (Value.int .i64) (Int.toNat_of_nonneg hc26).symm⟩ (by omega) ?_
    have h30 : St B w0 (⟨none, 0, 0 * 34, fun _ => undef, true⟩ :: _) _ := h23.nilE (fun _ => undef)
    obtain ⟨hc31, hR⟩ := hR
    refine Plan.appendLO (D := D81) (X := ([] : List ((BitVec 32) × (BitVec 32) × (Nat → BitVec 8)))) (Y := (sgl tList2 0 x_11.toNat)) (sz := 34) h30 () (0#32, 0#32, (fun _ => 0#8)) 0 LO.nil rfl FRef15.el78 rfl FRef15.slu78 rfl rfl rfl rfl (LV.sgl0 (LO.lvf D81_flat htList2 5 rfl) (hi := x_11.toNat) hc27) (fun _ _ h => h) hc31.1 hc31.2 (fun _ => EffO.keep (PIn.cons 2 rfl PIn.nil)) fun a29 pb29 cap29 F29 w29 ho29 h29 => ?_
    simp only [List.cons_append, List.nil_append, List.set_cons_zero, List.set_cons_succ] at h29
    replace ho29 : LO D81 [] a29 pb29 (([] : List ((BitVec 32) × (BitVec 32) × (Nat → BitVec 8))) ++ (sgl tList2 0 x_11.toNat)).length cap29 F29 (([] : List ((BitVec 32) × (BitVec 32) × (Nat → BitVec 8))) ++ (sgl tList2 0 x_11.toNat)) := ho29.re (fun _ _ h => h)
    refine Plan.assign_slice rfl rfl ?_
    refine Plan.nil ?_
    refine hK25 _ _ ?_; clear hK25
    refine W.seq_k fun K32 hK32 => ?_
    refine W.regionT [(0, true), (1, true), (2, true), (3, true), (4, true), (5, true), (6, true), (7, true), (8, false), (9, true)] (by kernel_rfl) ?_
    refine Plan.move_slice rfl rfl ?_
    refine Plan.move_ptr rfl rfl ?_
    refine Plan.nilCheck rfl rfl ?_
    refine Plan.fieldAddr0 FRef15.fld152_0 rfl rfl ?_
    refine Plan.load0 h29 2 rfl rfl rfl (by omega) FRef15.sc78 ?_
    refine Plan.move_int rfl rfl ?_
    obtain ⟨hc33, hR⟩ := hR
    refine Plan.addI (a := x_11) (b := 1) rfl rfl rfl (by omega) ?_
    obtain ⟨hc34, hR⟩ := hR
    obtain ⟨hc35, hR⟩ := hR
    have hm36 : tList2.length ≤ ctList2 := htList2.hc
    refine Plan.slSl (lo := (x_11 + 1).toNat) (hi := tList2.length) FRef15.sl78 rfl rfl ⟨_, congrArg (Value.int .i64) (Int.toNat_of_nonneg hc34).symm⟩ rfl (by omega) ?_
    obtain ⟨hc38, hR⟩ := hR
    refine Plan.appendLO (D := D81) (X := (([] : List ((BitVec 32) × (BitVec 32) × (Nat → BitVec 8))) ++ (sgl tList2 0 x_11.toNat))) (Y := (sgl tList2 ((x_11 + 1).toNat) tList2.length)) (sz := 34) h29 () (0#32, 0#32, (fun _ => 0#8)) 0 ho29 rfl FRef15.el78 rfl FRef15.slu78 rfl rfl rfl rfl (LV.sgl (LO.lvf D81_flat htList2 5 rfl) (lo := (x_11 + 1).toNat) (hi := tList2.length) hc35) (fun _ _ h => h) hc38.1 hc38.2 (fun _ => EffO.keep (PIn.cons 2 rfl PIn.nil)) fun a37 pb37 cap37 F37 w37 ho37 h37 => ?_
    simp only [List.cons_append, List.nil_append, List.set_cons_zero, List.set_cons_succ] at h37
    replace ho37 : LO D81 [] a37 pb37 ((([] : List ((BitVec 32) × (BitVec 32) × (Nat → BitVec 8))) ++ (sgl tList2 0 x_11.toNat)) ++ (sgl tList2 ((x_11 + 1).toNat) tList2.length)).length cap37 F37 ((([] : List ((BitVec 32) × (BitVec 32) × (Nat → BitVec 8))) ++ (sgl tList2 0 x_11.toNat)) ++ (sgl tList2 ((x_11 + 1).toNat) tList2.length)) := ho37.re (fun _ _ h => h)
    refine Plan.assign_slice rfl rfl ?_
    refine Plan.nil ?_
    refine hK32 _ _ ?_; clear hK32
    refine W.seq_k fun K39 hK39 => ?_
    refine W.regionT [(0, true), (1, true), (2, true), (3, true), (4, false)] (by kernel_rfl) ?_
    refine Plan.move_ptr rfl rfl ?_
    refine Plan.move_slice rfl rfl ?_
    refine Plan.nilCheck rfl rfl ?_
    refine Plan.fieldAddr0 FRef15.fld152_0 rfl rfl ?_
    refine Plan.storeC h37 2 rfl rfl rfl rfl rfl FRef15.sz78 rfl fun w40 h40 => ?_
    simp only [List.cons_append, List.nil_append, List.set_cons_zero, List.set_cons_succ] at h40
    refine Plan.nil ?_
    refine hK39 _ _ ?_; clear hK39
    refine W.seq_k fun K41 hK41 => ?_
    refine W.regionT [(0, true), (1, false), (2, true)] (by kernel_rfl) ?_
    refine Plan.loadA1 h40 1 rfl rfl rfl FRef15.agg71 ?_
    refine Plan.storeA (f' := fun q => VU .u8 (((tList2.getD x_11.toNat (0#32, 0#32, (fun _ => 0#8))).2.2) q)) h40 4 rfl rfl rfl rfl (fun _ _ => rfl) FRef15.sz71 rfl fun w42 h42 => ?_
    simp only [List.cons_append, List.nil_append, List.set_cons_zero, List.set_cons_succ] at h42
    refine Plan.assign_int rfl rfl ?_
    refine Plan.nil ?_
    refine hK41 _ _ ?_; clear hK41
    refine W.ret (finR_ret ?_)
    have h43 := St.pickT (C := [_, _, _, _, _, _]) h42 [2, 0, 3] (by decide)
    simp only [pick, List.filterMap_cons, List.filterMap_nil, List.getElem?_cons_zero, List.getElem?_cons_succ, List.cons_append, List.nil_append] at h43
    subst r
    refine RetOk.mk (.agg h42 rfl (.cons 4 rfl .nil) FRef15.agg71 (.tmp_int rfl .nil)) ?_
    exact ⟨a37, pb37, ((([] : List ((BitVec 32) × (BitVec 32) × (Nat → BitVec 8))) ++ (sgl tList2 0 x_11.toNat)) ++ (sgl tList2 ((x_11 + 1).toNat) tList2.length)).length, cap37, F37, rfl, h43, ho37⟩

end Go.Proofs.Ytbkgblhmlenocaa
