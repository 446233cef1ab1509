/-
  WALKS of the package's functions, printed by this session's own program (auto.py).
-/
import Derived.Test.YtbkgblhmlenocaaProg
import Derived.Test.YtbkgblhmlenocaaEd
import Derived.Test.YtbkgblhmlenocaaRSkips
import Derived.Test.YtbkgblhmlenocaaEls
import Derived.Test.YtbkgblhmlenocaaLay
import Derived.Test.YtbkgblhmlenocaaWCmp
namespace Go.Proofs.Ytbkgblhmlenocaa
set_option linter.unusedSimpArgs false
set_option linter.unusedVariables false
set_option linter.unusedSectionVars false
open Go Go.LW
theorem FSkips.key138 : KeyK Try.prog 138 kv2 := KeyK.two (ft := 73) (by kernel_rfl) (by kernel_rfl)
theorem FSkips.pl134 : placesB Try.prog 134 [(0, 1), (1, 1)] = true := by kernel_rfl
theorem FSkips.z134 : zeroIs Try.prog 134 [(1, fun _ => .int .i64 0), (1, fun _ => .map none)] := zeroIs_agg (by kernel_rfl)
theorem FSkips.call35 : callB Try.prog 35 = true := by kernel_rfl
theorem FSkips.pl81 : placesB Try.prog 81 [(0, 1), (1, 1), (2, 32)] = true := by kernel_rfl
theorem FSkips.z81 : zeroIs Try.prog 81 [(1, fun _ => VU .u32 0#32), (1, fun _ => VU .u32 0#32), (32, fun _ => VU .u8 0#8)] := zeroIs_agg (by kernel_rfl)
theorem FSkips.sz81 : szT Try.prog 81 34 = true := by kernel_rfl
theorem FSkips.mixed : Try.prog.follows .mixedOrders = true := by kernel_rfl
theorem FSkips.agg81 : aggT Try.prog 81 34 = true := by kernel_rfl
theorem FSkips.slu78 : Try.prog.underlying 78 = some (.slice 81) := by kernel_rfl
theorem FSkips.el78 : elD Try.prog 78 = some (34, 40, some (AG [(1, fun _ => VU .u32 0#32), (1, fun _ => VU .u32 0#32), (32, fun _ => VU .u8 0#8)])) := by kernel_rfl
theorem FSkips.zv81 : (Try.prog.info? 81).bind (·.zero) = some (AG [(1, fun _ => VU .u32 0#32), (1, fun _ => VU .u32 0#32), (32, fun _ => VU .u8 0#8)]) := by kernel_rfl
theorem FSkips.isl78 : ∃ el, Try.prog.underlying 78 = some (.slice el) := ⟨81, by kernel_rfl⟩
theorem FSkips.sl78 : slB Try.prog 78 34 = true := by kernel_rfl
theorem FSkips.fld134_1 : fieldB Try.prog 134 1 1 = true := by kernel_rfl
theorem FSkips.sc132 : scalarT Try.prog 132 = true := by kernel_rfl
theorem FSkips.fld81_0 : fieldB Try.prog 81 0 0 = true := by kernel_rfl
theorem FSkips.sc73 : scalarT Try.prog 73 = true := by kernel_rfl
theorem FSkips.fld81_1 : fieldB Try.prog 81 1 1 = true := by kernel_rfl
theorem FSkips.pl138 : placesB Try.prog 138 [(0, 1), (1, 1)] = true := by kernel_rfl
theorem FSkips.z138 : zeroIs Try.prog 138 [(1, fun _ => VU .u32 0#32), (1, fun _ => VU .u32 0#32)] := zeroIs_agg (by kernel_rfl)
theorem FSkips.fld81_2 : fieldB Try.prog 81 2 2 = true := by kernel_rfl
theorem FSkips.agg71 : aggT Try.prog 71 32 = true := by kernel_rfl
theorem FSkips.mapt132 : Try.prog.underlying 132 = some (.map 138 71) := by kernel_rfl
theorem FSkips.call93 : callB Try.prog 93 = true := by kernel_rfl
theorem FSkips.zv3 : (Try.prog.info? 3).bind (·.zero) = some (.int .i64 0) := by kernel_rfl
theorem FSkips.slu43 : Try.prog.underlying 43 = some (.slice 3) := by kernel_rfl
theorem FSkips.sz3 : szT Try.prog 3 1 = true := by kernel_rfl
theorem FSkips.sc3 : scalarT Try.prog 3 = true := by kernel_rfl
theorem FSkips.call56 : callB Try.prog 56 = true := by kernel_rfl
theorem FSkips.call71 : callB Try.prog 71 = true := by kernel_rfl
theorem FSkips.sz71 : szT Try.prog 71 32 = true := by kernel_rfl
theorem FSkips.z71 : zeroIs Try.prog 71 [(32, fun _ => VU .u8 0#8)] := zeroIs_agg (by kernel_rfl)
theorem FSkips.isl66 : ∃ el, Try.prog.underlying 66 = some (.slice el) := ⟨71, by kernel_rfl⟩
theorem FSkips.sl66 : slB Try.prog 66 32 = true := by kernel_rfl
theorem FSkips.u135 : Try.prog.underlying 135 = some (.int .u64) := by kernel_rfl
theorem FSkips.some73 : (Try.prog.underlying 73).isSome = true := by kernel_rfl
theorem FSkips.some3 : (Try.prog.underlying 3).isSome = true := by kernel_rfl
theorem FSkips.u73 : Try.prog.underlying 73 = some (.int .u32) := by kernel_rfl
theorem FSkips.zM71 : (Try.prog.info? 71).bind (·.zero) = some (D71.val () (fun _ => 0#8)) := by kernel_rfl
theorem FSkips.fld134_0 : fieldB Try.prog 134 0 0 = true := by kernel_rfl
theorem FSkips.row71 : rowB Try.prog 71 = true := by kernel_rfl
theorem FSkips.call38 : callB Try.prog 38 = true := by kernel_rfl
theorem FSkips.sz138 : szT Try.prog 138 2 = true := by kernel_rfl
theorem FSkips.fld138_0 : fieldB Try.prog 138 0 0 = true := by kernel_rfl
theorem FSkips.fld138_1 : fieldB Try.prog 138 1 1 = true := by kernel_rfl
theorem FSkips.call70 : callB Try.prog 70 = true := by kernel_rfl
theorem FSkips.call77 : callB Try.prog 77 = true := by kernel_rfl

set_option maxRecDepth 8000 in
set_option maxHeartbeats 1000000 in
theorem skips_New_ok {B : Nat} {w0 : Base} {w : World} {L : List Rg} {most1 : Int} {r : Nat ⊕ (Int × (List ((BitVec 32 × BitVec 32) × (Nat → BitVec 8))) × Nat)} (hR : skips_New most1 r) (HST : St B w0 (L) w) :
    Calls Try.prog 35 #[.int .i64 most1] w fun e w' => match r with | .inl z => e = .returned (.tuple #[.pointer none, VN z]) ∧ St B w0 (L) w' | .inr z => ∃ b0 : Nat, ∃ mw0_1 : Nat, e = .returned (.tuple #[.pointer (some ⟨b0, 0, none⟩), VN z.2.2]) ∧ St B (w0.on [mapR kv2 D71 [] mw0_1 z.2.1]) (⟨some b0, 0, 1, fun _ => .int .i64 z.1, true⟩ :: ⟨some b0, 1, 1, fun _ => .map (some mw0_1), true⟩ :: L) w' := by
  refine W.enter 14 Try.func35 rfl rfl rfl ?_
  unfold skips_New at hR
  refine W.seq_k fun K2 hK2 => ?_
  refine W.regionT [(0, true), (1, true)] (by kernel_rfl) ?_
  refine Plan.assign_ptr rfl rfl ?_
  refine Plan.assign_int rfl rfl ?_
  refine Plan.nil ?_
  refine hK2 _ _ ?_; clear hK2
  refine W.seq_k fun K3 hK3 => ?_
  refine W.seq_k fun K9 hK9 => ?_
  refine W.regionT [(0, true), (1, true), (2, true), (3, true), (4, true), (5, true)] (by kernel_rfl) ?_
  refine Plan.move_int rfl rfl ?_
  by_cases hc10 : most1 < 0
  ·
    replace hR := ifT hR hc10
    refine Plan.cmpV (a := (most1 : Int)) (b := (0 : Int)) (p := most1 < 0) (v := true) rfl rfl rfl rfl icmp_lt (decide_eq_true hc10) ?_
    refine Plan.move_bool rfl rfl ?_
    refine Plan.passed rfl ?_
    refine Plan.passed rfl ?_
    refine Plan.pickTb rfl rfl rfl ?_
    refine Plan.nil ?_
    refine hK9 _ _ ?_; clear hK9
    refine W.condT rfl ?_
    refine W.seq_k fun K11 hK11 => ?_
    refine W.regionT [(0, true), (1, true)] (by kernel_rfl) ?_
    refine Plan.assign_ptr rfl rfl ?_
    refine Plan.assign_int rfl rfl ?_
    refine Plan.nil ?_
    refine hK11 _ _ ?_; clear hK11
    refine W.ret (thenR_ret (finR_ret ?_))
    subst r
    refine RetOk.mk (.tmp_ptr rfl (.tmp_int rfl .nil)) ?_
    exact ⟨rfl, HST⟩
  ·
    replace hR := ifF hR hc10
    refine Plan.cmpV (a := (most1 : Int)) (b := (0 : Int)) (p := most1 < 0) (v := false) rfl rfl rfl rfl icmp_lt (decide_eq_false hc10) ?_
    refine Plan.move_bool rfl rfl ?_
    refine Plan.move_int rfl rfl ?_
    refine Plan.cmpP (a := (most1 : Int)) (b := (256 : Int)) (p := 256 < most1) rfl rfl rfl rfl icmp_gt ?_
    refine Plan.pickFb rfl rfl rfl ?_
    refine Plan.nil ?_
    refine hK9 _ _ ?_; clear hK9
    by_cases hc12 : 256 < most1
    ·
      replace hR := ifT hR hc12
      refine W.condT (congrArg Value.bool (decide_eq_true hc12)) ?_
      refine W.seq_k fun K13 hK13 => ?_
      refine W.regionT [(0, true), (1, true)] (by kernel_rfl) ?_
      refine Plan.assign_ptr rfl rfl ?_
      refine Plan.assign_int rfl rfl ?_
      refine Plan.nil ?_
      refine hK13 _ _ ?_; clear hK13
      refine W.ret (thenR_ret (finR_ret ?_))
      subst r
      refine RetOk.mk (.tmp_ptr rfl (.tmp_int rfl .nil)) ?_
      exact ⟨rfl, HST⟩
    ·
      replace hR := ifF hR hc12
      refine W.condF (congrArg Value.bool (decide_eq_false hc12)) ?_
      refine W.skip ?_
      refine hK3 _ _ ?_; clear hK3
      refine W.seq_k fun K14 hK14 => ?_
      refine W.regionT [(0, true), (1, false), (2, true), (3, false), (4, true), (5, true)] (by kernel_rfl) ?_
      refine Plan.move_int rfl rfl ?_
      refine Plan.makeMap (w0 := w0) (N := []) kv2 D71 [] HST rfl (by exact (EffO.keep PIn.nil)) fun m15 w15 h15 => ?_
      refine Plan.buildP (ps := [(1, fun _ => .int .i64 most1), (1, fun _ => .map (some m15))]) FSkips.pl134 (by decide) FSkips.z134 rfl rfl (.one [] [(1, fun _ => .map none)] (fun _ => VN 0) rfl rfl (.one [(1, fun _ => .int .i64 most1)] [] (fun _ => .map none) rfl rfl .nil)) ?_
      refine Plan.boxA h15 rfl rfl PIn.nil fun b16 w16 hb16 h16 => ?_
      simp only [rngs, Nat.zero_add, Nat.reduceAdd, List.cons_append, List.nil_append] at h16
      refine Plan.assign_ptr rfl rfl ?_
      refine Plan.assign_int rfl rfl ?_
      refine Plan.nil ?_
      refine hK14 _ _ ?_; clear hK14
      refine W.ret (finR_ret ?_)
      subst r
      refine RetOk.mk (.tmp_ptr rfl (.tmp_int rfl .nil)) ?_
      exact ⟨b16, m15, rfl, h16⟩


set_option maxRecDepth 8000 in
set_option maxHeartbeats 1000000 in
theorem skips_order_ok {B : Nat} {w0 : Base} {w : World} {L : List Rg} {aTurn1 : BitVec 32} {aN2 : BitVec 32} {aKey3 : Nat → BitVec 8} {bTurn4 : BitVec 32} {bN5 : BitVec 32} {bKey6 : Nat → BitVec 8} {r : Int} (hR : skips_order aTurn1 aN2 aKey3 bTurn4 bN5 bKey6 r) (HST : St B w0 (L) w) :
    Calls Try.prog 71 #[AG [(1, fun _ => VU .u32 aTurn1), (1, fun _ => VU .u32 aN2), (32, fun q => VU .u8 (aKey3 q))], AG [(1, fun _ => VU .u32 bTurn4), (1, fun _ => VU .u32 bN5), (32, fun q => VU .u8 (bKey6 q))]] w fun e w' => e = .returned (.int .i64 r) ∧ St B w0 (L) w' := by
  refine W.enter 17 Try.func71 rfl rfl rfl ?_
  unfold skips_order at hR
  refine W.seq_k fun K7 hK7 => ?_
  refine W.regionT [(0, false), (1, false), (2, true)] (by kernel_rfl) ?_
  refine Plan.boxA HST rfl rfl PIn.nil fun b8 w8 hb8 h8 => ?_
  simp only [rngs, Nat.zero_add, Nat.reduceAdd, List.cons_append, List.nil_append] at h8
  refine Plan.boxA h8 rfl rfl PIn.nil fun b9 w9 hb9 h9 => ?_
  simp only [rngs, Nat.zero_add, Nat.reduceAdd, List.cons_append, List.nil_append] at h9
  refine Plan.assign_int rfl rfl ?_
  refine Plan.nil ?_
  refine hK7 _ _ ?_; clear hK7
  refine W.seq_k fun K10 hK10 => ?_
  refine W.regionD FSkips.mixed [(0, true), (1, true), (2, true), (3, true), (5, true), (6, true), (7, true), (8, true), (4, false), (9, false), (10, false), (11, false), (12, true)] (by kernel_rfl) ?_
  have h11 := h9.drew
  refine Plan.fieldAddr0 FSkips.fld81_0 rfl rfl ?_
  refine Plan.load0 h11 3 rfl rfl rfl (by omega) FSkips.sc73 ?_
  refine Plan.fieldAddr0 FSkips.fld81_0 rfl rfl ?_
  refine Plan.load0 h11 0 rfl rfl rfl (by omega) FSkips.sc73 ?_
  refine Plan.fieldAddr 1 FSkips.fld81_1 rfl rfl ?_
  refine Plan.load0 h11 4 rfl rfl rfl (by omega) FSkips.sc73 ?_
  refine Plan.fieldAddr 1 FSkips.fld81_1 rfl rfl ?_
  refine Plan.load0 h11 1 rfl rfl rfl (by omega) FSkips.sc73 ?_
  obtain ⟨x_13, hr12, hR⟩ := hR
  refine Plan.callMix (vs := [VU .u32 aTurn1, VU .u32 bTurn4]) rfl FSkips.call93 rfl (cmp_Compare_uint32_ok  hr12 h11) ?_
  rintro _ w14 ⟨rfl, h14⟩
  refine ⟨_, rfl, _, _, _, _, h14, (by exact (EffO.mix _ (Filt.keep rfl (Filt.keep rfl (Filt.drop rfl (Filt.drop rfl Filt.nil)))) (PIn.cons 1 rfl (PIn.cons 4 rfl PIn.nil)))), ?_⟩
  obtain ⟨x_16, hr15, hR⟩ := hR
  refine Plan.call (vs := [VU .u32 aN2, VU .u32 bN5]) rfl FSkips.call93 rfl (cmp_Compare_uint32_ok  hr15 h14) ?_
  rintro _ w17 ⟨rfl, h17⟩
  refine ⟨_, rfl, .inr ⟨rfl, ?_⟩⟩
  refine Plan.buildLO (D := D3) (sz := 1) h17 [((), x_13), ((), x_16)] FSkips.slu43 FSkips.sz3 FSkips.zv3 (by decide) (by decide) rfl rfl rfl rfl (fun _ _ => trivial) (EffO.keep PIn.nil) fun b19 w19 F19 hb19 ho19 h19 => ?_
  replace ho19 : LO D3 [] (some ⟨b19, 0, none⟩) (some b19) ([x_13, x_16] : List Int).length 2 F19 ([x_13, x_16] : List Int) := ho19.re (fun _ _ h => h)
  obtain ⟨x_21, hr20, hR⟩ := hR
  refine Plan.call (vs := [.slice (some ⟨b19, 0, none⟩) (([x_13, x_16] : List Int).length) 2]) rfl FSkips.call56 rfl (cmp_Or_int_ok (by exact (LO.lvf D3_flat ho19 0 rfl)) hr20 h19) ?_
  rintro _ w22 ⟨rfl, h22⟩
  refine ⟨_, rfl, .inl ⟨PIn.keep (by exact PIn.nil) h22, ?_⟩⟩
  refine Plan.assign_int rfl rfl ?_
  refine Plan.nil ?_
  refine hK10 _ _ ?_; clear hK10
  refine W.ret (finR_ret ?_)
  have h23 := St.pickT (C := [_, _, _, _, _, _, _]) h22 [] (by decide)
  simp only [pick, List.filterMap_cons, List.filterMap_nil, List.getElem?_cons_zero, List.getElem?_cons_succ, List.cons_append, List.nil_append] at h23
  subst r
  refine RetOk.mk (.tmp_int rfl .nil) ?_
  exact ⟨rfl, h23⟩


set_option maxRecDepth 8000 in
set_option maxHeartbeats 1000000 in
theorem skips_Load_ok {B : Nat} {w0 : Base} {w : World} {L : List Rg} {most1 : Int} {list2 : List ((BitVec 32) × (BitVec 32) × (Nat → BitVec 8))} {alist2 : Option Addr} {nlist2 clist2 ilist2 : Nat} (hlist2 : LV D81 L ilist2 alist2 nlist2 clist2 list2) {r : Nat ⊕ (Int × (List ((BitVec 32 × BitVec 32) × (Nat → BitVec 8))) × Nat)} (hR : skips_Load most1 list2 r) (HST : St B w0 (L) w) :
    Calls Try.prog 52 #[.int .i64 most1, .slice alist2 nlist2 clist2] w fun e w' => match r with | .inl z => e = .returned (.tuple #[.pointer none, VN z]) ∧ St B w0 (L) w' | .inr z => ∃ b0 : Nat, ∃ mw0_1 : Nat, e = .returned (.tuple #[.pointer (some ⟨b0, 0, none⟩), VN z.2.2]) ∧ St B (w0.on [mapR kv2 D71 [] mw0_1 z.2.1]) (⟨some b0, 0, 1, fun _ => .int .i64 z.1, true⟩ :: ⟨some b0, 1, 1, fun _ => .map (some mw0_1), true⟩ :: L) w' := by
  refine W.enter 54 Try.func52 rfl rfl rfl ?_
  unfold skips_Load at hR
  have elist2 := hlist2.hl; subst elist2
  refine W.seq_k fun K3 hK3 => ?_
  refine W.regionT [(0, true), (1, true)] (by kernel_rfl) ?_
  refine Plan.assign_ptr rfl rfl ?_
  refine Plan.assign_int rfl rfl ?_
  refine Plan.nil ?_
  refine hK3 _ _ ?_; clear hK3
  refine W.seq_k fun K4 hK4 => ?_
  refine W.regionT [(0, true), (1, false), (2, true), (3, true), (4, true), (5, true), (6, true)] (by kernel_rfl) ?_
  refine Plan.move_int rfl rfl ?_
  rcases hR with ⟨x_6, hr5, hR⟩ | ⟨x_7, x_8, x_9, hr5, hR⟩
  ·
    refine Plan.call (vs := [.int .i64 most1]) rfl FSkips.call35 rfl (skips_New_ok  hr5 HST) ?_
    rintro _ w10 ⟨rfl, h10⟩
    refine ⟨_, rfl, .inl ⟨PIn.keep (by exact PIn.nil) h10, ?_⟩⟩
    refine Plan.move_tuple rfl rfl ?_
    refine Plan.extract_ptr rfl rfl rfl ?_
    refine Plan.extract_int rfl rfl rfl ?_
    refine Plan.assign_ptr rfl rfl ?_
    refine Plan.assign_int rfl rfl ?_
    refine Plan.nil ?_
    refine hK4 _ _ ?_; clear hK4
    refine W.seq_k fun K11 hK11 => ?_
    refine W.seq_k fun K12 hK12 => ?_
    refine W.regionT [(0, true), (1, true)] (by kernel_rfl) ?_
    refine Plan.move_int rfl rfl ?_
    refine Plan.cmpP (a := (((x_6 : Nat) : Int) : Int)) (b := (0 : Int)) (p := x_6 ≠ 0) rfl rfl rfl rfl icmp_neN ?_
    refine Plan.nil ?_
    refine hK12 _ _ ?_; clear hK12
    by_cases hc13 : x_6 ≠ 0
    ·
      replace hR := ifT hR hc13
      refine W.condT (congrArg Value.bool (decide_eq_true hc13)) ?_
      refine W.seq_k fun K14 hK14 => ?_
      refine W.regionT [(0, true), (1, true), (2, true)] (by kernel_rfl) ?_
      refine Plan.move_int rfl rfl ?_
      refine Plan.assign_ptr rfl rfl ?_
      refine Plan.assign_int rfl rfl ?_
      refine Plan.nil ?_
      refine hK14 _ _ ?_; clear hK14
      refine W.ret (thenR_ret (finR_ret ?_))
      subst r
      refine RetOk.mk (.tmp_ptr rfl (.tmp_int rfl .nil)) ?_
      exact ⟨rfl, h10⟩
    ·
      replace hR := ifF hR hc13
      refine W.condF (congrArg Value.bool (decide_eq_false hc13)) ?_
      refine W.skip ?_
      refine hK11 _ _ ?_; clear hK11
      refine W.seq_k fun K15 hK15 => ?_
      refine W.seq_k fun K16 hK16 => ?_
      refine W.regionT [(0, true), (1, true), (2, true), (3, true)] (by kernel_rfl) ?_
      refine Plan.move_slice rfl rfl ?_
      refine Plan.len FSkips.isl78 rfl rfl ?_
      refine Plan.move_int rfl rfl ?_
      refine Plan.cmpP (a := (((list2.length : Nat) : Int) : Int)) (b := (most1 : Int)) (p := most1 < ((list2.length : Nat) : Int)) rfl rfl rfl rfl icmp_gt ?_
      refine Plan.nil ?_
      refine hK16 _ _ ?_; clear hK16
      by_cases hc17 : most1 < ((list2.length : Nat) : Int)
      ·
        replace hR := ifT hR hc17
        refine W.condT (congrArg Value.bool (decide_eq_true hc17)) ?_
        refine W.seq_k fun K18 hK18 => ?_
        refine W.regionT [(0, true), (1, true)] (by kernel_rfl) ?_
        refine Plan.assign_ptr rfl rfl ?_
        refine Plan.assign_int rfl rfl ?_
        refine Plan.nil ?_
        refine hK18 _ _ ?_; clear hK18
        refine W.ret (thenR_ret (finR_ret ?_))
        subst r
        refine RetOk.mk (.tmp_ptr rfl (.tmp_int rfl .nil)) ?_
        exact ⟨rfl, h10⟩
      ·
        replace hR := ifF hR hc17
        refine W.condF (congrArg Value.bool (decide_eq_false hc17)) ?_
        refine W.skip ?_
        refine hK15 _ _ ?_; clear hK15
        refine W.seq_k fun K19 hK19 => ?_
        refine W.seq_k fun K20 hK20 => ?_
        refine W.regionT [(0, true), (1, true), (2, true)] (by kernel_rfl) ?_
        refine Plan.move_slice rfl rfl ?_
        refine Plan.len FSkips.isl78 rfl rfl ?_
        refine Plan.move_int rfl rfl ?_
        refine Plan.nil ?_
        refine hK20 _ _ ?_; clear hK20
        obtain ⟨x36, hI36, hR036⟩ := hR
        refine W.cutN (fun e w => x36 = some () ∧ EnvHas e [(6, .pointer none)] ∧ St B w0 (L) w) ?_ ?_
        ·
          refine W.block ?_
          refine W.iter hI36 (fun (s36 : Unit) e w => EnvHas e [(1, .slice alist2 list2.length clist2), (6, .pointer none), (22, .slice alist2 list2.length clist2), (23, VN list2.length), (24, VN 0)] ∧ St B w0 (L) w) ⟨(EnvHas.cons rfl (EnvHas.cons rfl (EnvHas.cons rfl (EnvHas.cons rfl (EnvHas.cons rfl EnvHas.nil))))), h10⟩ ?_
          rintro _ o36 hR hx36 ev37 wl37 ⟨he37, h37⟩
          obtain ⟨ev37, rfl⟩ := he37.open
          unfold skips_Load_l0 at hR
          refine W.seq_k fun K38 hK38 => ?_
          refine W.regionT [(0, true)] (by kernel_rfl) ?_
          refine Plan.cmpP (a := (0 : Int)) (b := (((list2.length : Nat) : Int) : Int)) (p := 0 < list2.length) rfl rfl rfl rfl icmp_ltN ?_
          refine Plan.nil ?_
          refine hK38 _ _ ?_; clear hK38
          refine W.seq_k fun K39 hK39 => ?_
          by_cases hc40 : 0 < list2.length
          ·
            replace hR := ifT hR hc40
            refine W.condT (congrArg Value.bool (decide_eq_true hc40)) ?_
            refine W.skip ?_
            refine hK39 _ _ ?_; clear hK39
            refine W.seq_k fun K41 hK41 => ?_
            refine W.block ?_
            refine W.seq_k fun K42 hK42 => ?_
            refine W.regionT [(0, true), (1, true), (2, true), (3, false), (4, true), (5, false)] (by kernel_rfl) ?_
            refine Plan.move_int rfl rfl ?_
            obtain ⟨hc43, hR⟩ := hR
            refine Plan.idxLVS (D := D81) (j := 0) h37 hlist2 FSkips.sl78 rfl rfl rfl hc43 ?_
            refine Plan.loadLV (D := D81) (X := list2) (j := 0) (sz := 34) h37 (0#32, 0#32, (fun _ => 0#8)) hlist2 rfl rfl hc43 rfl FSkips.agg81 fun b44 r44 hs44 hr44 => ?_
            refine Plan.alloc h37 rfl FSkips.z81 (PIn.cons (ilist2 + 0) hr44 PIn.nil) fun b45 w45 hb45 h45 => ?_
            simp only [rngs, Nat.zero_add, Nat.reduceAdd, List.cons_append, List.nil_append] at h45
            refine Plan.assign_int rfl rfl ?_
            refine Plan.storeP (ps := [(1, fun _ => VU .u32 ((list2.getD 0 (0#32, 0#32, (fun _ => 0#8))).1)), (1, fun _ => VU .u32 ((list2.getD 0 (0#32, 0#32, (fun _ => 0#8))).2.1)), (32, fun q => VU .u8 (((list2.getD 0 (0#32, 0#32, (fun _ => 0#8))).2.2) q))]) h45 rfl rfl rfl (.cons 0 rfl (.cons 1 rfl (.cons 2 rfl .nil))) ⟨fun _ _ => rfl, fun _ _ => rfl, fun _ _ => rfl, trivial⟩ FSkips.sz81 (EffO.wait rfl) fun w46 h46 => ?_
            simp only [List.cons_append, List.nil_append, List.set_cons_zero, List.set_cons_succ] at h46
            refine Plan.nil ?_
            refine hK42 _ _ ?_; clear hK42
            refine W.seq_k fun K47 hK47 => ?_
            refine W.seq_k fun K50 hK50 => ?_
            refine W.regionD FSkips.mixed [(0, true), (1, true), (2, true), (3, true), (4, true), (5, true), (6, true), (7, true), (8, true), (9, false), (10, true), (11, true)] (by kernel_rfl) ?_
            have h51 := h46.drew
            refine Plan.move_int rfl rfl ?_
            refine Plan.cmpP (a := (0 : Int)) (b := (0 : Int)) (p := (0 : Nat) < 0) rfl rfl rfl rfl icmp_gtN ?_
            refine Plan.move_bool rfl rfl ?_
            refine Plan.passed rfl ?_
            refine Plan.passed rfl ?_
            refine Plan.passed rfl ?_
            refine Plan.passed rfl ?_
            refine Plan.passed rfl ?_
            refine Plan.passed rfl ?_
            refine Plan.passed rfl ?_
            refine Plan.passed rfl ?_
            refine Plan.pickFb rfl rfl rfl ?_
            refine Plan.nil ?_
            refine hK50 _ _ ?_; clear hK50
            refine W.condF rfl ?_
            refine W.skip ?_
            refine hK47 _ _ ?_; clear hK47
            refine W.regionD FSkips.mixed [(0, true), (1, true), (2, true), (3, true), (4, true), (5, true), (6, true), (7, true), (8, true), (9, true), (10, true), (11, false)] (by kernel_rfl) ?_
            have h52 := h51.drew
            refine Plan.move_ptr rfl rfl ?_
            exact hR.elim
          ·
            replace hR := ifF hR hc40
            refine W.condF (congrArg Value.bool (decide_eq_false hc40)) ?_
            refine W.exit (thenR_exit (iterR_exit (blockR_here ?_)))
            exact ⟨(hx36 _ hR).symm, (EnvHas.cons rfl EnvHas.nil), h37⟩
        ·
          rintro ev53 wl53 ⟨hy53, he53, h53⟩
          obtain ⟨ev53, rfl⟩ := he53.open
          replace hR := hR036  hy53
          refine hK19 _ _ ?_; clear hK19
          refine W.seq_k fun K54 hK54 => ?_
          refine W.regionT [(0, true), (1, true), (2, true)] (by kernel_rfl) ?_
          refine Plan.move_ptr rfl rfl ?_
          refine Plan.assign_ptr rfl rfl ?_
          refine Plan.assign_int rfl rfl ?_
          refine Plan.nil ?_
          refine hK54 _ _ ?_; clear hK54
          refine W.ret (finR_ret ?_)
          subst r
          refine RetOk.mk (.tmp_ptr rfl (.tmp_int rfl .nil)) ?_
          exact ⟨rfl, h53⟩
  ·
    refine Plan.call (vs := [.int .i64 most1]) rfl FSkips.call35 rfl (skips_New_ok (w0 := w0) hr5 HST) ?_
    rintro _ w57 ⟨b0_55, mw0_1_56, rfl, h57⟩
    replace h57 : St B (w0.on [mapR kv2 D71 [] mw0_1_56 x_8]) _ _ := h57
    refine ⟨_, rfl, .inl ⟨PIn.keep (by exact PIn.nil) h57, ?_⟩⟩
    refine Plan.move_tuple rfl rfl ?_
    refine Plan.extract_ptr rfl rfl rfl ?_
    refine Plan.extract_int rfl rfl rfl ?_
    refine Plan.assign_ptr rfl rfl ?_
    refine Plan.assign_int rfl rfl ?_
    refine Plan.nil ?_
    refine hK4 _ _ ?_; clear hK4
    refine W.seq_k fun K58 hK58 => ?_
    refine W.seq_k fun K59 hK59 => ?_
    refine W.regionT [(0, true), (1, true)] (by kernel_rfl) ?_
    refine Plan.move_int rfl rfl ?_
    refine Plan.cmpP (a := (((x_9 : Nat) : Int) : Int)) (b := (0 : Int)) (p := x_9 ≠ 0) rfl rfl rfl rfl icmp_neN ?_
    refine Plan.nil ?_
    refine hK59 _ _ ?_; clear hK59
    by_cases hc60 : x_9 ≠ 0
    ·
      replace hR := ifT hR hc60
      refine W.condT (congrArg Value.bool (decide_eq_true hc60)) ?_
      refine W.seq_k fun K61 hK61 => ?_
      refine W.regionT [(0, true), (1, true), (2, true)] (by kernel_rfl) ?_
      refine Plan.move_int rfl rfl ?_
      refine Plan.assign_ptr rfl rfl ?_
      refine Plan.assign_int rfl rfl ?_
      refine Plan.nil ?_
      refine hK61 _ _ ?_; clear hK61
      refine W.ret (thenR_ret (finR_ret ?_))
      have h62 := St.pickT (C := [_, _]) h57 [] (by decide)
      simp only [pick, List.filterMap_cons, List.filterMap_nil, List.getElem?_cons_zero, List.getElem?_cons_succ, List.cons_append, List.nil_append] at h62
      have h63 : St B w0 _ _ := St.mpick (N := [mapR kv2 D71 [] mw0_1_56 x_8]) (N' := []) h62 [] (by decide) rfl
      subst r
      refine RetOk.mk (.tmp_ptr rfl (.tmp_int rfl .nil)) ?_
      exact ⟨rfl, h63⟩
    ·
      replace hR := ifF hR hc60
      refine W.condF (congrArg Value.bool (decide_eq_false hc60)) ?_
      refine W.skip ?_
      refine hK58 _ _ ?_; clear hK58
      refine W.seq_k fun K64 hK64 => ?_
      refine W.seq_k fun K65 hK65 => ?_
      refine W.regionT [(0, true), (1, true), (2, true), (3, true)] (by kernel_rfl) ?_
      refine Plan.move_slice rfl rfl ?_
      refine Plan.len FSkips.isl78 rfl rfl ?_
      refine Plan.move_int rfl rfl ?_
      refine Plan.cmpP (a := (((list2.length : Nat) : Int) : Int)) (b := (most1 : Int)) (p := most1 < ((list2.length : Nat) : Int)) rfl rfl rfl rfl icmp_gt ?_
      refine Plan.nil ?_
      refine hK65 _ _ ?_; clear hK65
      by_cases hc66 : most1 < ((list2.length : Nat) : Int)
      ·
        replace hR := ifT hR hc66
        refine W.condT (congrArg Value.bool (decide_eq_true hc66)) ?_
        refine W.seq_k fun K67 hK67 => ?_
        refine W.regionT [(0, true), (1, true)] (by kernel_rfl) ?_
        refine Plan.assign_ptr rfl rfl ?_
        refine Plan.assign_int rfl rfl ?_
        refine Plan.nil ?_
        refine hK67 _ _ ?_; clear hK67
        refine W.ret (thenR_ret (finR_ret ?_))
        have h68 := St.pickT (C := [_, _]) h57 [] (by decide)
        simp only [pick, List.filterMap_cons, List.filterMap_nil, List.getElem?_cons_zero, List.getElem?_cons_succ, List.cons_append, List.nil_append] at h68
        have h69 : St B w0 _ _ := St.mpick (N := [mapR kv2 D71 [] mw0_1_56 x_8]) (N' := []) h68 [] (by decide) rfl
        subst r
        refine RetOk.mk (.tmp_ptr rfl (.tmp_int rfl .nil)) ?_
        exact ⟨rfl, h69⟩
      ·
        replace hR := ifF hR hc66
        refine W.condF (congrArg Value.bool (decide_eq_false hc66)) ?_
        refine W.skip ?_
        refine hK64 _ _ ?_; clear hK64
        refine W.seq_k fun K70 hK70 => ?_
        refine W.seq_k fun K71 hK71 => ?_
        refine W.regionT [(0, true), (1, true), (2, true)] (by kernel_rfl) ?_
        refine Plan.move_slice rfl rfl ?_
        refine Plan.len FSkips.isl78 rfl rfl ?_
        refine Plan.move_int rfl rfl ?_
        refine Plan.nil ?_
        refine hK71 _ _ ?_; clear hK71
        obtain ⟨x130, hI130, hR0130⟩ := hR
        refine W.cutN (fun e w => ∃ y_mp129 : List ((BitVec 32 × BitVec 32) × (Nat → BitVec 8)), x130 = some y_mp129 ∧ EnvHas e [(6, .pointer (some ⟨b0_55, 0, none⟩))] ∧ St B (w0.on [mapR kv2 D71 [] mw0_1_56 y_mp129]) (⟨some b0_55, 0, 1, fun _ => .int .i64 x_7, true⟩ :: ⟨some b0_55, 1, 1, fun _ => .map (some mw0_1_56), true⟩ :: L) w) ?_ ?_
        ·
          refine W.block ?_
          refine W.iter hI130 (fun (s130 : ((List ((BitVec 32 × BitVec 32) × (Nat → BitVec 8))) × Nat)) e w => EnvHas e [(1, .slice alist2 list2.length clist2), (6, .pointer (some ⟨b0_55, 0, none⟩)), (22, .slice alist2 list2.length clist2), (23, VN list2.length), (24, VN s130.2)] ∧ St B (w0.on [mapR kv2 D71 [] mw0_1_56 s130.1]) (⟨some b0_55, 0, 1, fun _ => .int .i64 x_7, true⟩ :: ⟨some b0_55, 1, 1, fun _ => .map (some mw0_1_56), true⟩ :: L) w) ⟨(EnvHas.cons rfl (EnvHas.cons rfl (EnvHas.cons rfl (EnvHas.cons rfl (EnvHas.cons rfl EnvHas.nil))))), h57⟩ ?_
          rintro ⟨mp127, t128⟩ o130 hR hx130 ev131 wl131 ⟨he131, h131⟩
          obtain ⟨ev131, rfl⟩ := he131.open
          unfold skips_Load_l1 at hR
          refine W.seq_k fun K132 hK132 => ?_
          refine W.regionT [(0, true)] (by kernel_rfl) ?_
          refine Plan.cmpP (a := (((t128 : Nat) : Int) : Int)) (b := (((list2.length : Nat) : Int) : Int)) (p := t128 < list2.length) rfl rfl rfl rfl icmp_ltN ?_
          refine Plan.nil ?_
          refine hK132 _ _ ?_; clear hK132
          refine W.seq_k fun K133 hK133 => ?_
          by_cases hc134 : t128 < list2.length
          ·
            replace hR := ifT hR hc134
            refine W.condT (congrArg Value.bool (decide_eq_true hc134)) ?_
            refine W.skip ?_
            refine hK133 _ _ ?_; clear hK133
            refine W.seq_k fun K135 hK135 => ?_
            refine W.block ?_
            refine W.seq_k fun K136 hK136 => ?_
            refine W.regionT [(0, true), (1, true), (2, true), (3, false), (4, true), (5, false)] (by kernel_rfl) ?_
            refine Plan.move_int rfl rfl ?_
            obtain ⟨hc137, hR⟩ := hR
            refine Plan.idxLVS (D := D81) (j := t128) h131 (hlist2.app [_, _]) FSkips.sl78 rfl rfl rfl hc137 ?_
            refine Plan.loadLV (D := D81) (X := list2) (j := t128) (sz := 34) h131 (0#32, 0#32, (fun _ => 0#8)) (hlist2.app [_, _]) rfl rfl hc137 rfl FSkips.agg81 fun b138 r138 hs138 hr138 => ?_
            refine Plan.alloc h131 rfl FSkips.z81 (PIn.cons (ilist2 + 2) hr138 PIn.nil) fun b139 w139 hb139 h139 => ?_
            simp only [rngs, Nat.zero_add, Nat.reduceAdd, List.cons_append, List.nil_append] at h139
            refine Plan.assign_int rfl rfl ?_
            refine Plan.storeP (ps := [(1, fun _ => VU .u32 ((list2.getD t128 (0#32, 0#32, (fun _ => 0#8))).1)), (1, fun _ => VU .u32 ((list2.getD t128 (0#32, 0#32, (fun _ => 0#8))).2.1)), (32, fun q => VU .u8 (((list2.getD t128 (0#32, 0#32, (fun _ => 0#8))).2.2) q))]) h139 rfl rfl rfl (.cons 0 rfl (.cons 1 rfl (.cons 2 rfl .nil))) ⟨fun _ _ => rfl, fun _ _ => rfl, fun _ _ => rfl, trivial⟩ FSkips.sz81 (EffO.wait rfl) fun w140 h140 => ?_
            simp only [List.cons_append, List.nil_append, List.set_cons_zero, List.set_cons_succ] at h140
            refine Plan.nil ?_
            refine hK136 _ _ ?_; clear hK136
            refine W.seq_k fun K141 hK141 => ?_
            obtain ⟨ok153, hX153, hR0153⟩ := hR
            refine W.cutN (fun e w => (ok153 = true) ∧ EnvHas e [(1, .slice alist2 list2.length clist2), (6, .pointer (some ⟨b0_55, 0, none⟩)), (9, .pointer (some ⟨b139, 0, none⟩)), (22, .slice alist2 list2.length clist2), (23, VN list2.length), (24, VN t128)] ∧ St B (w0.on [mapR kv2 D71 [] mw0_1_56 mp127]) (⟨some b139, 0, 1, fun _ => VU .u32 ((list2.getD t128 (0#32, 0#32, (fun _ => 0#8))).1), true⟩ :: ⟨some b139, 1, 1, fun _ => VU .u32 ((list2.getD t128 (0#32, 0#32, (fun _ => 0#8))).2.1), true⟩ :: ⟨some b139, 2, 32, fun q => VU .u8 (((list2.getD t128 (0#32, 0#32, (fun _ => 0#8))).2.2) q), true⟩ :: ⟨some b0_55, 0, 1, fun _ => .int .i64 x_7, true⟩ :: ⟨some b0_55, 1, 1, fun _ => .map (some mw0_1_56), true⟩ :: L) w) ?_ ?_
            ·
              replace hR := hX153
              refine W.seq_k fun K154 hK154 => ?_
              refine W.regionD FSkips.mixed [(0, true), (1, true), (2, true), (3, true), (4, true), (5, true), (6, true), (7, true), (8, true), (9, false), (10, true), (11, true)] (by kernel_rfl) ?_
              have h155 := h140.drew
              refine Plan.move_int rfl rfl ?_
              by_cases hc156 : 0 < t128
              ·
                replace hR := ifT hR hc156
                refine Plan.cmpV (a := (((t128 : Nat) : Int) : Int)) (b := (0 : Int)) (p := 0 < t128) (v := true) rfl rfl rfl rfl icmp_gtN (decide_eq_true hc156) ?_
                refine Plan.move_bool rfl rfl ?_
                refine Plan.move_slice rfl rfl ?_
                refine Plan.move_int rfl rfl ?_
                obtain ⟨hc157, hR⟩ := hR
                refine Plan.subI (a := ((t128 : Nat) : Int)) (b := 1) rfl rfl rfl (by omega) ?_
                obtain ⟨hc158, hR⟩ := hR
                refine Plan.idxLVS (D := D81) (j := (((t128 : Nat) : Int) - 1).toNat) h155 (hlist2.app [_, _, _, _, _]) FSkips.sl78 rfl rfl (congrArg (Value.int .i64) (Int.toNat_of_nonneg hc158.1).symm) (toNat_lt hc158.1 hc158.2) ?_
                refine Plan.loadLV (D := D81) (X := list2) (j := (((t128 : Nat) : Int) - 1).toNat) (sz := 34) h155 (0#32, 0#32, (fun _ => 0#8)) (hlist2.app [_, _, _, _, _]) rfl rfl (toNat_lt hc158.1 hc158.2) rfl FSkips.agg81 fun b159 r159 hs159 hr159 => ?_
                refine Plan.loadA h155 rfl rfl (.cons 0 rfl (.cons 1 rfl (.cons 2 rfl .nil))) FSkips.agg81 ?_
                obtain ⟨x_161, hr160, hR⟩ := hR
                refine Plan.call (vs := [AG [(1, fun _ => VU .u32 ((list2.getD ((((t128 : Nat) : Int) - 1).toNat) (0#32, 0#32, (fun _ => 0#8))).1)), (1, fun _ => VU .u32 ((list2.getD ((((t128 : Nat) : Int) - 1).toNat) (0#32, 0#32, (fun _ => 0#8))).2.1)), (32, fun q => VU .u8 (((list2.getD ((((t128 : Nat) : Int) - 1).toNat) (0#32, 0#32, (fun _ => 0#8))).2.2) q))], AG [(1, fun _ => VU .u32 ((list2.getD t128 (0#32, 0#32, (fun _ => 0#8))).1)), (1, fun _ => VU .u32 ((list2.getD t128 (0#32, 0#32, (fun _ => 0#8))).2.1)), (32, fun q => VU .u8 (((list2.getD t128 (0#32, 0#32, (fun _ => 0#8))).2.2) q))]]) rfl FSkips.call71 rfl (skips_order_ok  hr160 h155) ?_
                rintro _ w162 ⟨rfl, h162⟩
                refine ⟨_, rfl, .inr ⟨rfl, ?_⟩⟩
                refine Plan.cmpP (a := (x_161 : Int)) (b := (0 : Int)) (p := 0 ≤ x_161) rfl rfl rfl rfl icmp_ge ?_
                refine Plan.pickTb rfl rfl rfl ?_
                refine Plan.nil ?_
                refine hK154 _ _ ?_; clear hK154
                by_cases hc163 : 0 ≤ x_161
                ·
                  replace hR := ifT hR hc163
                  refine W.condT (congrArg Value.bool (decide_eq_true hc163)) ?_
                  refine W.seq_k fun K164 hK164 => ?_
                  refine W.regionT [(0, true), (1, true)] (by kernel_rfl) ?_
                  refine Plan.assign_ptr rfl rfl ?_
                  refine Plan.assign_int rfl rfl ?_
                  refine Plan.nil ?_
                  refine hK164 _ _ ?_; clear hK164
                  refine W.ret (thenR_ret (thenR_ret (blockR_ret (thenR_ret (iterR_ret (blockR_ret (thenR_ret (thenR_ret (finR_ret ?_)))))))))
                  have h165 := St.pickT (C := [_, _, _, _, _]) h162 [] (by decide)
                  simp only [pick, List.filterMap_cons, List.filterMap_nil, List.getElem?_cons_zero, List.getElem?_cons_succ, List.cons_append, List.nil_append] at h165
                  have h166 : St B w0 _ _ := St.mpick (N := [mapR kv2 D71 [] mw0_1_56 mp127]) (N' := []) h165 [] (by decide) rfl
                  replace hR := hR.2
                  replace hR := hR.2
                  subst r
                  refine RetOk.mk (.tmp_ptr rfl (.tmp_int rfl .nil)) ?_
                  exact ⟨rfl, h166⟩
                ·
                  replace hR := ifF hR hc163
                  refine W.condF (congrArg Value.bool (decide_eq_false hc163)) ?_
                  refine W.skip ?_
                  exact ⟨hR, (EnvHas.cons rfl (EnvHas.cons rfl (EnvHas.cons rfl (EnvHas.cons rfl (EnvHas.cons rfl (EnvHas.cons rfl EnvHas.nil)))))), h162⟩
              ·
                replace hR := ifF hR hc156
                refine Plan.cmpV (a := (((t128 : Nat) : Int) : Int)) (b := (0 : Int)) (p := 0 < t128) (v := false) rfl rfl rfl rfl icmp_gtN (decide_eq_false hc156) ?_
                refine Plan.move_bool rfl rfl ?_
                refine Plan.passed rfl ?_
                refine Plan.passed rfl ?_
                refine Plan.passed rfl ?_
                refine Plan.passed rfl ?_
                refine Plan.passed rfl ?_
                refine Plan.passed rfl ?_
                refine Plan.passed rfl ?_
                refine Plan.passed rfl ?_
                refine Plan.pickFb rfl rfl rfl ?_
                refine Plan.nil ?_
                refine hK154 _ _ ?_; clear hK154
                refine W.condF rfl ?_
                refine W.skip ?_
                exact ⟨hR, (EnvHas.cons rfl (EnvHas.cons rfl (EnvHas.cons rfl (EnvHas.cons rfl (EnvHas.cons rfl (EnvHas.cons rfl EnvHas.nil)))))), h155⟩
            ·
              rintro ev167 wl167 ⟨hy167_0, he167, h167⟩
              obtain ⟨ev167, rfl⟩ := he167.open
              replace hR := hR0153 hy167_0
              refine hK141 _ _ ?_; clear hK141
              refine W.regionD FSkips.mixed [(0, true), (1, true), (2, true), (3, true), (4, true), (5, true), (6, true), (7, true), (8, true), (9, true), (10, true), (11, false)] (by kernel_rfl) ?_
              have h168 := h167.drew
              refine Plan.move_ptr rfl rfl ?_
              refine Plan.nilCheck rfl rfl ?_
              refine Plan.fieldAddr 1 FSkips.fld134_1 rfl rfl ?_
              refine Plan.load0 h168 4 rfl rfl rfl (by omega) FSkips.sc132 ?_
              refine Plan.fieldAddr0 FSkips.fld81_0 rfl rfl ?_
              refine Plan.load0 h168 0 rfl rfl rfl (by omega) FSkips.sc73 ?_
              refine Plan.fieldAddr 1 FSkips.fld81_1 rfl rfl ?_
              refine Plan.load0 h168 1 rfl rfl rfl (by omega) FSkips.sc73 ?_
              refine Plan.buildP (ps := [(1, fun _ => VU .u32 ((list2.getD t128 (0#32, 0#32, (fun _ => 0#8))).1)), (1, fun _ => VU .u32 ((list2.getD t128 (0#32, 0#32, (fun _ => 0#8))).2.1))]) FSkips.pl138 (by decide) FSkips.z138 rfl rfl (.one [] [(1, fun _ => VU .u32 (0#32))] (fun _ => VU .u32 (0#32)) rfl rfl (.one [(1, fun _ => VU .u32 ((list2.getD t128 (0#32, 0#32, (fun _ => 0#8))).1))] [] (fun _ => VU .u32 (0#32)) rfl rfl .nil)) ?_
              refine Plan.fieldAddr 2 FSkips.fld81_2 rfl rfl ?_
              refine Plan.loadA1 h168 2 rfl rfl rfl FSkips.agg71 ?_
              refine Plan.updM (w0 := w0) (D := D71) (N := [mapR kv2 D71 [] mw0_1_56 mp127]) (X := mp127) (k := ((list2.getD t128 (0#32, 0#32, (fun _ => 0#8))).1, (list2.getD t128 (0#32, 0#32, (fun _ => 0#8))).2.1)) h168 0 FSkips.key138 FSkips.mapt132 rfl () ((list2.getD t128 (0#32, 0#32, (fun _ => 0#8))).2.2) trivial rfl rfl rfl rfl (by exact (EffO.wait rfl)) fun w169 h169 => ?_
              simp only [List.set_cons_zero, List.set_cons_succ] at h169
              refine Plan.nil ?_
              refine blockR_norm ?_
              refine hK135 _ _ ?_; clear hK135
              refine W.regionT [(0, true), (1, true)] (by kernel_rfl) ?_
              obtain ⟨hc170, hR⟩ := hR
              refine Plan.addN (a := t128) (b := 1) rfl rfl rfl (by omega) ?_
              refine Plan.move_int rfl rfl ?_
              refine Plan.nil ?_
              have h171 := St.pickT (C := [_, _, _, _, _]) h169 [3, 4] (by decide)
              simp only [pick, List.filterMap_cons, List.filterMap_nil, List.getElem?_cons_zero, List.getElem?_cons_succ, List.cons_append, List.nil_append] at h171
              exact iterR_norm ⟨_, hR, (EnvHas.cons rfl (EnvHas.cons rfl (EnvHas.cons rfl (EnvHas.cons rfl (EnvHas.cons rfl EnvHas.nil))))), h171⟩
          ·
            replace hR := ifF hR hc134
            refine W.condF (congrArg Value.bool (decide_eq_false hc134)) ?_
            refine W.exit (thenR_exit (iterR_exit (blockR_here ?_)))
            exact ⟨mp127, (hx130 _ hR).symm, (EnvHas.cons rfl EnvHas.nil), h131⟩
        ·
          rintro ev172 wl172 ⟨y_mp129, hy172, he172, h172⟩
          obtain ⟨ev172, rfl⟩ := he172.open
          replace hR := hR0130 y_mp129 hy172
          obtain ⟨mp129, e_mp129⟩ : ∃ z, z = y_mp129 := ⟨_, rfl⟩; subst e_mp129
          refine hK70 _ _ ?_; clear hK70
          refine W.seq_k fun K173 hK173 => ?_
          refine W.regionT [(0, true), (1, true), (2, true)] (by kernel_rfl) ?_
          refine Plan.move_ptr rfl rfl ?_
          refine Plan.assign_ptr rfl rfl ?_
          refine Plan.assign_int rfl rfl ?_
          refine Plan.nil ?_
          refine hK173 _ _ ?_; clear hK173
          refine W.ret (finR_ret ?_)
          subst r
          refine RetOk.mk (.tmp_ptr rfl (.tmp_int rfl .nil)) ?_
          exact ⟨b0_55, mw0_1_56, rfl, h172⟩


set_option maxRecDepth 8000 in
set_option maxHeartbeats 1000000 in
theorem skips_Table_Add_ok {B : Nat} {w0 : Base} {w : World} {L : List Rg} {bt1 : Nat} {tmost2 : Int} {tkeys3 : List ((BitVec 32 × BitVec 32) × (Nat → BitVec 8))} {mtkeys3 : Nat} {turn4 : BitVec 32} {first5 : BitVec 32} {keys6 : List (Nat → BitVec 8)} {akeys6 : Option Addr} {nkeys6 ckeys6 ikeys6 : Nat} (hkeys6 : LV D71 L ikeys6 akeys6 nkeys6 ckeys6 keys6) {r : (Nat × (List ((BitVec 32 × BitVec 32) × (Nat → BitVec 8))))} (hR : skips_Table_Add tmost2 tkeys3 turn4 first5 keys6 r) (HST : St B (w0.on [mapR kv2 D71 [] mtkeys3 tkeys3]) (⟨some bt1, 0, 1, fun _ => .int .i64 tmost2, true⟩ :: ⟨some bt1, 1, 1, fun _ => .map (some mtkeys3), true⟩ :: L) w) :
    Calls Try.prog 36 #[.pointer (some ⟨bt1, 0, none⟩), VU .u32 turn4, VU .u32 first5, .slice akeys6 nkeys6 ckeys6] w fun e w' => e = .returned (VN r.1) ∧ St B (w0.on [mapR kv2 D71 [] mtkeys3 r.2]) (⟨some bt1, 0, 1, fun _ => .int .i64 tmost2, true⟩ :: ⟨some bt1, 1, 1, fun _ => .map (some mtkeys3), true⟩ :: L) w' := by
  refine W.enter 78 Try.func36 rfl rfl rfl ?_
  unfold skips_Table_Add at hR
  have ekeys6 := hkeys6.hl; subst ekeys6
  refine W.seq_k fun K7 hK7 => ?_
  refine W.regionT [(0, true)] (by kernel_rfl) ?_
  refine Plan.assign_int rfl rfl ?_
  refine Plan.nil ?_
  refine hK7 _ _ ?_; clear hK7
  refine W.seq_k fun K8 hK8 => ?_
  refine W.seq_k fun K9 hK9 => ?_
  refine W.regionT [(0, true), (1, true), (2, true)] (by kernel_rfl) ?_
  refine Plan.move_slice rfl rfl ?_
  refine Plan.len FSkips.isl66 rfl rfl ?_
  refine Plan.cmpP (a := (((keys6.length : Nat) : Int) : Int)) (b := (0 : Int)) (p := keys6.length = 0) rfl rfl rfl rfl icmp_eqN ?_
  refine Plan.nil ?_
  refine hK9 _ _ ?_; clear hK9
  by_cases hc10 : keys6.length = 0
  ·
    replace hR := ifT hR hc10
    refine W.condT (congrArg Value.bool (decide_eq_true hc10)) ?_
    refine W.seq_k fun K11 hK11 => ?_
    refine W.regionT [(0, true)] (by kernel_rfl) ?_
    refine Plan.assign_int rfl rfl ?_
    refine Plan.nil ?_
    refine hK11 _ _ ?_; clear hK11
    refine W.ret (thenR_ret (finR_ret ?_))
    subst r
    refine RetOk.mk (.tmp_int rfl .nil) ?_
    exact ⟨rfl, HST⟩
  ·
    replace hR := ifF hR hc10
    refine W.condF (congrArg Value.bool (decide_eq_false hc10)) ?_
    refine W.skip ?_
    refine hK8 _ _ ?_; clear hK8
    refine W.seq_k fun K12 hK12 => ?_
    refine W.seq_k fun K13 hK13 => ?_
    refine W.regionT [(0, true), (1, true), (2, true), (3, true), (4, true), (5, true), (6, true), (7, true)] (by kernel_rfl) ?_
    refine Plan.move_int rfl rfl ?_
    refine Plan.convUU .u64 (X := first5) FSkips.u135 FSkips.some73 rfl rfl ?_
    refine Plan.move_slice rfl rfl ?_
    refine Plan.len FSkips.isl66 rfl rfl ?_
    refine Plan.convNU .u64 (a := keys6.length) FSkips.u135 FSkips.some3 rfl rfl ?_
    refine Plan.addU .u64 (X := (first5.setWidth 64)) (Y := (BitVec.ofNat 64 keys6.length)) rfl rfl rfl ?_
    refine Plan.subU .u64 (X := ((first5.setWidth 64) + (BitVec.ofNat 64 keys6.length))) (Y := 1#64) rfl rfl rfl ?_
    refine Plan.cmpP (a := ((((first5.setWidth 64) + (BitVec.ofNat 64 keys6.length)) - (1#64)).toNat : Int)) (b := ((4294967295#64).toNat : Int)) (p := (4294967295#64).toNat < (((first5.setWidth 64) + (BitVec.ofNat 64 keys6.length)) - (1#64)).toNat) rfl rfl rfl rfl icmp_gtN ?_
    refine Plan.nil ?_
    refine hK13 _ _ ?_; clear hK13
    by_cases hc14 : (4294967295#64).toNat < (((first5.setWidth 64) + (BitVec.ofNat 64 keys6.length)) - (1#64)).toNat
    ·
      replace hR := ifT hR hc14
      refine W.condT (congrArg Value.bool (decide_eq_true hc14)) ?_
      refine W.seq_k fun K15 hK15 => ?_
      refine W.regionT [(0, true)] (by kernel_rfl) ?_
      refine Plan.assign_int rfl rfl ?_
      refine Plan.nil ?_
      refine hK15 _ _ ?_; clear hK15
      refine W.ret (thenR_ret (finR_ret ?_))
      subst r
      refine RetOk.mk (.tmp_int rfl .nil) ?_
      exact ⟨rfl, HST⟩
    ·
      replace hR := ifF hR hc14
      refine W.condF (congrArg Value.bool (decide_eq_false hc14)) ?_
      refine W.skip ?_
      refine hK12 _ _ ?_; clear hK12
      refine W.seq_k fun K16 hK16 => ?_
      refine W.seq_k fun K17 hK17 => ?_
      refine W.regionT [(0, true), (1, true), (2, true)] (by kernel_rfl) ?_
      refine Plan.move_slice rfl rfl ?_
      refine Plan.len FSkips.isl66 rfl rfl ?_
      refine Plan.move_int rfl rfl ?_
      refine Plan.nil ?_
      refine hK17 _ _ ?_; clear hK17
      obtain ⟨x45, hI45, hR045⟩ := hR
      refine W.cutN (fun e w => x45 = some () ∧ EnvHas e [(0, .pointer (some ⟨bt1, 0, none⟩)), (1, VU .u32 turn4), (2, VU .u32 first5), (3, .slice akeys6 keys6.length ckeys6)] ∧ St B (w0.on [mapR kv2 D71 [] mtkeys3 tkeys3]) (⟨some bt1, 0, 1, fun _ => .int .i64 tmost2, true⟩ :: ⟨some bt1, 1, 1, fun _ => .map (some mtkeys3), true⟩ :: L) w) ?_ ?_
      ·
        refine W.block ?_
        refine W.iter hI45 (fun (s45 : Nat) e w => EnvHas e [(0, .pointer (some ⟨bt1, 0, none⟩)), (1, VU .u32 turn4), (2, VU .u32 first5), (3, .slice akeys6 keys6.length ckeys6), (26, VN keys6.length), (27, VN s45)] ∧ St B (w0.on [mapR kv2 D71 [] mtkeys3 tkeys3]) (⟨some bt1, 0, 1, fun _ => .int .i64 tmost2, true⟩ :: ⟨some bt1, 1, 1, fun _ => .map (some mtkeys3), true⟩ :: L) w) ⟨(EnvHas.cons rfl (EnvHas.cons rfl (EnvHas.cons rfl (EnvHas.cons rfl (EnvHas.cons rfl (EnvHas.cons rfl EnvHas.nil)))))), HST⟩ ?_
        rintro t44 o45 hR hx45 ev46 wl46 ⟨he46, h46⟩
        obtain ⟨ev46, rfl⟩ := he46.open
        unfold skips_Table_Add_l0 at hR
        refine W.seq_k fun K47 hK47 => ?_
        refine W.regionT [(0, true)] (by kernel_rfl) ?_
        refine Plan.cmpP (a := (((t44 : Nat) : Int) : Int)) (b := (((keys6.length : Nat) : Int) : Int)) (p := t44 < keys6.length) rfl rfl rfl rfl icmp_ltN ?_
        refine Plan.nil ?_
        refine hK47 _ _ ?_; clear hK47
        refine W.seq_k fun K48 hK48 => ?_
        by_cases hc49 : t44 < keys6.length
        ·
          replace hR := ifT hR hc49
          refine W.condT (congrArg Value.bool (decide_eq_true hc49)) ?_
          refine W.skip ?_
          refine hK48 _ _ ?_; clear hK48
          refine W.seq_k fun K50 hK50 => ?_
          refine W.block ?_
          refine W.seq_k fun K51 hK51 => ?_
          refine W.regionT [(0, true), (1, true)] (by kernel_rfl) ?_
          refine Plan.move_int rfl rfl ?_
          refine Plan.assign_int rfl rfl ?_
          refine Plan.nil ?_
          refine hK51 _ _ ?_; clear hK51
          refine W.seq_k fun K52 hK52 => ?_
          refine W.regionT [(0, true), (1, true), (2, true), (3, true), (4, true), (5, true), (6, true), (7, true), (8, true), (9, true), (10, false), (11, true), (12, true), (13, true), (14, false), (15, false), (16, true)] (by kernel_rfl) ?_
          refine Plan.move_ptr rfl rfl ?_
          refine Plan.nilCheck rfl rfl ?_
          refine Plan.fieldAddr 1 FSkips.fld134_1 rfl rfl ?_
          refine Plan.load0 h46 1 rfl rfl rfl (by omega) FSkips.sc132 ?_
          refine Plan.move_int rfl rfl ?_
          refine Plan.move_int rfl rfl ?_
          refine Plan.move_int rfl rfl ?_
          refine Plan.convNU .u32 (a := t44) FSkips.u73 FSkips.some3 rfl rfl ?_
          refine Plan.addU .u32 (X := first5) (Y := (BitVec.ofNat 32 t44)) rfl rfl rfl ?_
          refine Plan.buildP (ps := [(1, fun _ => VU .u32 turn4), (1, fun _ => VU .u32 (first5 + (BitVec.ofNat 32 t44)))]) FSkips.pl138 (by decide) FSkips.z138 rfl rfl (.one [] [(1, fun _ => VU .u32 (0#32))] (fun _ => VU .u32 (0#32)) rfl rfl (.one [(1, fun _ => VU .u32 turn4)] [] (fun _ => VU .u32 (0#32)) rfl rfl .nil)) ?_
          refine Plan.lookupM (w0 := w0) (D := D71) (N := [mapR kv2 D71 [] mtkeys3 tkeys3]) (X := tkeys3) (k := (turn4, (first5 + (BitVec.ofNat 32 t44)))) h46 0 FSkips.key138 FSkips.mapt132 rfl () (fun _ => 0#8) FSkips.zM71 trivial rfl rfl rfl (by exact (EffO.wait rfl)) fun b53 w53 hs53 h53 => ?_
          refine Plan.move_tuple rfl rfl ?_
          refine Plan.extract_agg rfl rfl rfl ?_
          refine Plan.extract_bool rfl rfl rfl ?_
          refine Plan.alloc h53 rfl FSkips.z71 PIn.nil fun b54 w54 hb54 h54 => ?_
          simp only [rngs, Nat.zero_add, Nat.reduceAdd, List.cons_append, List.nil_append] at h54
          refine Plan.storeA (f' := fun q => VU .u8 (((mget (turn4, (first5 + (BitVec.ofNat 32 t44))) tkeys3).getD (fun _ => 0#8)) q)) h54 0 rfl rfl rfl rfl (fun _ _ => rfl) FSkips.sz71 rfl fun w55 h55 => ?_
          simp only [List.cons_append, List.nil_append, List.set_cons_zero, List.set_cons_succ] at h55
          refine Plan.assign_bool rfl rfl ?_
          refine Plan.nil ?_
          refine hK52 _ _ ?_; clear hK52
          refine W.seq_k fun K56 hK56 => ?_
          refine W.regionT [(0, true)] (by kernel_rfl) ?_
          refine Plan.move_bool rfl rfl ?_
          refine Plan.nil ?_
          refine hK56 _ _ ?_; clear hK56
          by_cases hc57 : (mget (turn4, (first5 + (BitVec.ofNat 32 t44))) tkeys3).isSome = true
          ·
            replace hR := ifT hR hc57
            refine W.condT (congrArg Value.bool hc57) ?_
            refine W.seq_k fun K58 hK58 => ?_
            refine W.regionT [(0, true)] (by kernel_rfl) ?_
            refine Plan.assign_int rfl rfl ?_
            refine Plan.nil ?_
            refine hK58 _ _ ?_; clear hK58
            refine W.ret (blockR_ret (thenR_ret (iterR_ret (blockR_ret (thenR_ret (thenR_ret (finR_ret ?_)))))))
            have h59 := St.pickT (C := [_, _, _]) h55 [1, 2] (by decide)
            simp only [pick, List.filterMap_cons, List.filterMap_nil, List.getElem?_cons_zero, List.getElem?_cons_succ, List.cons_append, List.nil_append] at h59
            replace hR := hR.2
            subst r
            refine RetOk.mk (.tmp_int rfl .nil) ?_
            exact ⟨rfl, h59⟩
          ·
            replace hR := ifF hR hc57
            refine W.condF (congrArg Value.bool (Bool.eq_false_iff.2 hc57)) ?_
            refine W.skip ?_
            refine blockR_norm ?_
            refine hK50 _ _ ?_; clear hK50
            refine W.regionT [(0, true), (1, true)] (by kernel_rfl) ?_
            obtain ⟨hc60, hR⟩ := hR
            refine Plan.addN (a := t44) (b := 1) rfl rfl rfl (by omega) ?_
            refine Plan.move_int rfl rfl ?_
            refine Plan.nil ?_
            have h61 := St.pickT (C := [_, _, _]) h55 [1, 2] (by decide)
            simp only [pick, List.filterMap_cons, List.filterMap_nil, List.getElem?_cons_zero, List.getElem?_cons_succ, List.cons_append, List.nil_append] at h61
            exact iterR_norm ⟨_, hR, (EnvHas.cons rfl (EnvHas.cons rfl (EnvHas.cons rfl (EnvHas.cons rfl (EnvHas.cons rfl (EnvHas.cons rfl EnvHas.nil)))))), h61⟩
        ·
          replace hR := ifF hR hc49
          refine W.condF (congrArg Value.bool (decide_eq_false hc49)) ?_
          refine W.exit (thenR_exit (iterR_exit (blockR_here ?_)))
          exact ⟨(hx45 _ hR).symm, (EnvHas.cons rfl (EnvHas.cons rfl (EnvHas.cons rfl (EnvHas.cons rfl EnvHas.nil)))), h46⟩
      ·
        rintro ev62 wl62 ⟨hy62, he62, h62⟩
        obtain ⟨ev62, rfl⟩ := he62.open
        replace hR := hR045  hy62
        refine hK16 _ _ ?_; clear hK16
        refine W.seq_k fun K63 hK63 => ?_
        refine W.seq_k fun K64 hK64 => ?_
        refine W.regionD FSkips.mixed [(0, true), (1, true), (2, true), (3, true), (5, true), (6, true), (8, true), (9, true), (10, true), (11, true), (4, false), (7, true), (12, true)] (by kernel_rfl) ?_
        have h65 := h62.drew
        refine Plan.move_ptr rfl rfl ?_
        refine Plan.nilCheck rfl rfl ?_
        refine Plan.fieldAddr 1 FSkips.fld134_1 rfl rfl ?_
        refine Plan.load0 h65 1 rfl rfl rfl (by omega) FSkips.sc132 ?_
        refine Plan.move_slice rfl rfl ?_
        refine Plan.len FSkips.isl66 rfl rfl ?_
        refine Plan.move_ptr rfl rfl ?_
        refine Plan.nilCheck rfl rfl ?_
        refine Plan.fieldAddr0 FSkips.fld134_0 rfl rfl ?_
        refine Plan.load0 h65 0 rfl rfl rfl (by omega) FSkips.sc3 ?_
        refine Plan.lenM (w0 := w0) (N := [mapR kv2 D71 [] mtkeys3 tkeys3]) h65 0 FSkips.mapt132 rfl rfl rfl (by exact (EffO.mix _ (Filt.keep rfl (Filt.drop rfl Filt.nil)) (PIn.cons 0 rfl PIn.nil))) fun w66 h66 => ?_
        obtain ⟨hc67, hR⟩ := hR
        refine Plan.addN (a := tkeys3.length) (b := keys6.length) rfl rfl rfl (by omega) ?_
        refine Plan.cmpP (a := ((((tkeys3.length + keys6.length) : Nat) : Int) : Int)) (b := (tmost2 : Int)) (p := tmost2 < (((tkeys3.length + keys6.length) : Nat) : Int)) rfl rfl rfl rfl icmp_gt ?_
        refine Plan.nil ?_
        refine hK64 _ _ ?_; clear hK64
        by_cases hc68 : tmost2 < (((tkeys3.length + keys6.length) : Nat) : Int)
        ·
          replace hR := ifT hR hc68
          refine W.condT (congrArg Value.bool (decide_eq_true hc68)) ?_
          refine W.seq_k fun K69 hK69 => ?_
          refine W.regionT [(0, true)] (by kernel_rfl) ?_
          refine Plan.assign_int rfl rfl ?_
          refine Plan.nil ?_
          refine hK69 _ _ ?_; clear hK69
          refine W.ret (thenR_ret (finR_ret ?_))
          subst r
          refine RetOk.mk (.tmp_int rfl .nil) ?_
          exact ⟨rfl, h66⟩
        ·
          replace hR := ifF hR hc68
          refine W.condF (congrArg Value.bool (decide_eq_false hc68)) ?_
          refine W.skip ?_
          refine hK63 _ _ ?_; clear hK63
          refine W.seq_k fun K70 hK70 => ?_
          refine W.seq_k fun K71 hK71 => ?_
          refine W.regionT [(0, true), (1, true), (2, true)] (by kernel_rfl) ?_
          refine Plan.move_slice rfl rfl ?_
          refine Plan.len FSkips.isl66 rfl rfl ?_
          refine Plan.move_int rfl rfl ?_
          refine Plan.nil ?_
          refine hK71 _ _ ?_; clear hK71
          obtain ⟨mp99, hI100, hR0100⟩ := hR
          refine W.cutN (fun e w => ∃ y_mp99 : List ((BitVec 32 × BitVec 32) × (Nat → BitVec 8)), mp99 = y_mp99 ∧ EnvHas e [] ∧ St B (w0.on [mapR kv2 D71 [] mtkeys3 y_mp99]) (⟨some bt1, 0, 1, fun _ => .int .i64 tmost2, true⟩ :: ⟨some bt1, 1, 1, fun _ => .map (some mtkeys3), true⟩ :: L) w) ?_ ?_
          ·
            refine W.block ?_
            refine W.iter hI100 (fun (s100 : ((List ((BitVec 32 × BitVec 32) × (Nat → BitVec 8))) × Nat)) e w => EnvHas e [(0, .pointer (some ⟨bt1, 0, none⟩)), (1, VU .u32 turn4), (2, VU .u32 first5), (59, .slice akeys6 keys6.length ckeys6), (60, VN keys6.length), (61, VN s100.2)] ∧ St B (w0.on [mapR kv2 D71 [] mtkeys3 s100.1]) (⟨some bt1, 0, 1, fun _ => .int .i64 tmost2, true⟩ :: ⟨some bt1, 1, 1, fun _ => .map (some mtkeys3), true⟩ :: L) w) ⟨(EnvHas.cons rfl (EnvHas.cons rfl (EnvHas.cons rfl (EnvHas.cons rfl (EnvHas.cons rfl (EnvHas.cons rfl EnvHas.nil)))))), h66⟩ ?_
            rintro ⟨mp97, t98⟩ o100 hR hx100 ev101 wl101 ⟨he101, h101⟩
            obtain ⟨ev101, rfl⟩ := he101.open
            unfold skips_Table_Add_l1 at hR
            refine W.seq_k fun K102 hK102 => ?_
            refine W.regionT [(0, true)] (by kernel_rfl) ?_
            refine Plan.cmpP (a := (((t98 : Nat) : Int) : Int)) (b := (((keys6.length : Nat) : Int) : Int)) (p := t98 < keys6.length) rfl rfl rfl rfl icmp_ltN ?_
            refine Plan.nil ?_
            refine hK102 _ _ ?_; clear hK102
            refine W.seq_k fun K103 hK103 => ?_
            by_cases hc104 : t98 < keys6.length
            ·
              replace hR := ifT hR hc104
              refine W.condT (congrArg Value.bool (decide_eq_true hc104)) ?_
              refine W.skip ?_
              refine hK103 _ _ ?_; clear hK103
              refine W.seq_k fun K105 hK105 => ?_
              refine W.block ?_
              refine W.seq_k fun K106 hK106 => ?_
              refine W.regionT [(0, true), (1, true), (2, true), (3, false), (4, true), (5, false)] (by kernel_rfl) ?_
              refine Plan.move_int rfl rfl ?_
              obtain ⟨hc107, hR⟩ := hR
              refine Plan.idxLVS (D := D71) (j := t98) h101 (hkeys6.app [_, _]) FSkips.sl66 rfl rfl rfl hc107 ?_
              refine Plan.loadLV (D := D71) (X := keys6) (j := t98) (sz := 32) h101 (fun _ => 0#8) (hkeys6.app [_, _]) rfl rfl hc107 rfl FSkips.agg71 fun b108 r108 hs108 hr108 => ?_
              refine Plan.alloc h101 rfl FSkips.z71 (PIn.cons (ikeys6 + 2) hr108 PIn.nil) fun b109 w109 hb109 h109 => ?_
              simp only [rngs, Nat.zero_add, Nat.reduceAdd, List.cons_append, List.nil_append] at h109
              refine Plan.assign_int rfl rfl ?_
              refine Plan.storeA (f' := fun q => VU .u8 ((keys6.getD t98 (fun _ => 0#8)) q)) h109 0 rfl rfl rfl rfl (fun _ _ => rfl) FSkips.sz71 rfl fun w110 h110 => ?_
              simp only [List.cons_append, List.nil_append, List.set_cons_zero, List.set_cons_succ] at h110
              refine Plan.nil ?_
              refine hK106 _ _ ?_; clear hK106
              refine W.regionD FSkips.mixed [(0, true), (1, true), (2, true), (3, true), (4, true), (5, true), (6, true), (7, true), (8, true), (9, true), (10, true), (11, false)] (by kernel_rfl) ?_
              have h111 := h110.drew
              refine Plan.move_ptr rfl rfl ?_
              refine Plan.nilCheck rfl rfl ?_
              refine Plan.fieldAddr 1 FSkips.fld134_1 rfl rfl ?_
              refine Plan.load0 h111 2 rfl rfl rfl (by omega) FSkips.sc132 ?_
              refine Plan.move_int rfl rfl ?_
              refine Plan.move_int rfl rfl ?_
              refine Plan.move_int rfl rfl ?_
              refine Plan.convNU .u32 (a := t98) FSkips.u73 FSkips.some3 rfl rfl ?_
              refine Plan.addU .u32 (X := first5) (Y := (BitVec.ofNat 32 t98)) rfl rfl rfl ?_
              refine Plan.buildP (ps := [(1, fun _ => VU .u32 turn4), (1, fun _ => VU .u32 (first5 + (BitVec.ofNat 32 t98)))]) FSkips.pl138 (by decide) FSkips.z138 rfl rfl (.one [] [(1, fun _ => VU .u32 (0#32))] (fun _ => VU .u32 (0#32)) rfl rfl (.one [(1, fun _ => VU .u32 turn4)] [] (fun _ => VU .u32 (0#32)) rfl rfl .nil)) ?_
              refine Plan.loadA1 h111 0 rfl rfl rfl FSkips.agg71 ?_
              refine Plan.updM (w0 := w0) (D := D71) (N := [mapR kv2 D71 [] mtkeys3 mp97]) (X := mp97) (k := (turn4, (first5 + (BitVec.ofNat 32 t98)))) h111 0 FSkips.key138 FSkips.mapt132 rfl () (keys6.getD t98 (fun _ => 0#8)) trivial rfl rfl rfl rfl (by exact (EffO.wait rfl)) fun w112 h112 => ?_
              simp only [List.set_cons_zero, List.set_cons_succ] at h112
              refine Plan.nil ?_
              refine blockR_norm ?_
              refine hK105 _ _ ?_; clear hK105
              refine W.regionT [(0, true), (1, true)] (by kernel_rfl) ?_
              obtain ⟨hc113, hR⟩ := hR
              refine Plan.addN (a := t98) (b := 1) rfl rfl rfl (by omega) ?_
              refine Plan.move_int rfl rfl ?_
              refine Plan.nil ?_
              have h114 := St.pickT (C := [_, _, _]) h112 [1, 2] (by decide)
              simp only [pick, List.filterMap_cons, List.filterMap_nil, List.getElem?_cons_zero, List.getElem?_cons_succ, List.cons_append, List.nil_append] at h114
              exact iterR_norm ⟨_, hR, (EnvHas.cons rfl (EnvHas.cons rfl (EnvHas.cons rfl (EnvHas.cons rfl (EnvHas.cons rfl (EnvHas.cons rfl EnvHas.nil)))))), h114⟩
            ·
              replace hR := ifF hR hc104
              refine W.condF (congrArg Value.bool (decide_eq_false hc104)) ?_
              refine W.exit (thenR_exit (iterR_exit (blockR_here ?_)))
              exact ⟨mp97, (hx100 _ hR).symm, EnvHas.nil, h101⟩
          ·
            rintro ev115 wl115 ⟨y_mp99, hy115, he115, h115⟩
            obtain ⟨ev115, rfl⟩ := he115.open
            subst hy115
            replace hR := hR0100
            refine hK70 _ _ ?_; clear hK70
            refine W.seq_k fun K116 hK116 => ?_
            refine W.regionT [(0, true)] (by kernel_rfl) ?_
            refine Plan.assign_int rfl rfl ?_
            refine Plan.nil ?_
            refine hK116 _ _ ?_; clear hK116
            refine W.ret (finR_ret ?_)
            subst r
            refine RetOk.mk (.tmp_int rfl .nil) ?_
            exact ⟨rfl, h115⟩


set_option maxRecDepth 8000 in
set_option maxHeartbeats 1000000 in
theorem skips_Table_Find_ok {B : Nat} {w0 : Base} {w : World} {L : List Rg} {bt1 : Nat} {tmost2 : Int} {tkeys3 : List ((BitVec 32 × BitVec 32) × (Nat → BitVec 8))} {mtkeys3 : Nat} {turn4 : BitVec 32} {n_5 : BitVec 32} {r : ((Nat → BitVec 8) × Nat)} (hR : skips_Table_Find tmost2 tkeys3 turn4 n_5 r) (HST : St B (w0.on [mapR kv2 D71 [] mtkeys3 tkeys3]) (⟨some bt1, 0, 1, fun _ => .int .i64 tmost2, true⟩ :: ⟨some bt1, 1, 1, fun _ => .map (some mtkeys3), true⟩ :: L) w) :
    Calls Try.prog 38 #[.pointer (some ⟨bt1, 0, none⟩), VU .u32 turn4, VU .u32 n_5] w fun e w' => e = .returned (.tuple #[AG [(32, fun q => VU .u8 (r.1 q))], VN r.2]) ∧ St B (w0.on [mapR kv2 D71 [] mtkeys3 tkeys3]) (⟨some bt1, 0, 1, fun _ => .int .i64 tmost2, true⟩ :: ⟨some bt1, 1, 1, fun _ => .map (some mtkeys3), true⟩ :: L) w' := by
  refine W.enter 25 Try.func38 rfl rfl rfl ?_
  unfold skips_Table_Find at hR
  refine W.seq_k fun K6 hK6 => ?_
  refine W.regionT [(0, false), (1, true)] (by kernel_rfl) ?_
  refine Plan.alloc HST rfl FSkips.z71 PIn.nil fun b7 w7 hb7 h7 => ?_
  simp only [rngs, Nat.zero_add, Nat.reduceAdd, List.cons_append, List.nil_append] at h7
  refine Plan.assign_int rfl rfl ?_
  refine Plan.nil ?_
  refine hK6 _ _ ?_; clear hK6
  refine W.seq_k fun K8 hK8 => ?_
  refine W.regionT [(0, true), (1, true), (2, true), (3, true), (4, true), (5, true), (6, true), (7, false), (8, true), (9, true), (10, true), (11, false), (12, false), (13, true)] (by kernel_rfl) ?_
  refine Plan.move_ptr rfl rfl ?_
  refine Plan.nilCheck rfl rfl ?_
  refine Plan.fieldAddr 1 FSkips.fld134_1 rfl rfl ?_
  refine Plan.load0 h7 2 rfl rfl rfl (by omega) FSkips.sc132 ?_
  refine Plan.move_int rfl rfl ?_
  refine Plan.move_int rfl rfl ?_
  refine Plan.buildP (ps := [(1, fun _ => VU .u32 turn4), (1, fun _ => VU .u32 n_5)]) FSkips.pl138 (by decide) FSkips.z138 rfl rfl (.one [] [(1, fun _ => VU .u32 (0#32))] (fun _ => VU .u32 (0#32)) rfl rfl (.one [(1, fun _ => VU .u32 turn4)] [] (fun _ => VU .u32 (0#32)) rfl rfl .nil)) ?_
  refine Plan.lookupM (w0 := w0) (D := D71) (N := [mapR kv2 D71 [] mtkeys3 tkeys3]) (X := tkeys3) (k := (turn4, n_5)) h7 0 FSkips.key138 FSkips.mapt132 rfl () (fun _ => 0#8) FSkips.zM71 trivial rfl rfl rfl (by exact (EffO.wait rfl)) fun b9 w9 hs9 h9 => ?_
  refine Plan.move_tuple rfl rfl ?_
  refine Plan.extract_agg rfl rfl rfl ?_
  refine Plan.extract_bool rfl rfl rfl ?_
  refine Plan.alloc h9 rfl FSkips.z71 PIn.nil fun b10 w10 hb10 h10 => ?_
  simp only [rngs, Nat.zero_add, Nat.reduceAdd, List.cons_append, List.nil_append] at h10
  refine Plan.storeA (f' := fun q => VU .u8 (((mget (turn4, n_5) tkeys3).getD (fun _ => 0#8)) q)) h10 0 rfl rfl rfl rfl (fun _ _ => rfl) FSkips.sz71 rfl fun w11 h11 => ?_
  simp only [List.cons_append, List.nil_append, List.set_cons_zero, List.set_cons_succ] at h11
  refine Plan.assign_bool rfl rfl ?_
  refine Plan.nil ?_
  refine hK8 _ _ ?_; clear hK8
  refine W.seq_k fun K12 hK12 => ?_
  refine W.seq_k fun K13 hK13 => ?_
  refine W.regionT [(0, true), (1, true)] (by kernel_rfl) ?_
  refine Plan.move_bool rfl rfl ?_
  refine Plan.not rfl rfl ?_
  refine Plan.nil ?_
  refine hK13 _ _ ?_; clear hK13
  by_cases hc14 : (mget (turn4, n_5) tkeys3).isSome = true
  ·
    replace hR := ifT hR hc14
    refine W.condF (congrArg Value.bool (congrArg Bool.not hc14)) ?_
    refine W.skip ?_
    refine hK12 _ _ ?_; clear hK12
    refine W.seq_k fun K15 hK15 => ?_
    refine W.regionT [(0, true), (1, false), (2, true)] (by kernel_rfl) ?_
    refine Plan.loadA1 h11 0 rfl rfl rfl FSkips.agg71 ?_
    refine Plan.storeA (f' := fun q => VU .u8 (((mget (turn4, n_5) tkeys3).getD (fun _ => 0#8)) q)) h11 1 rfl rfl rfl rfl (fun _ _ => rfl) FSkips.sz71 rfl fun w16 h16 => ?_
    simp only [List.cons_append, List.nil_append, List.set_cons_zero, List.set_cons_succ] at h16
    refine Plan.assign_int rfl rfl ?_
    refine Plan.nil ?_
    refine hK15 _ _ ?_; clear hK15
    refine W.ret (finR_ret ?_)
    have h17 := St.pickT (C := [_, _, _, _]) h16 [2, 3] (by decide)
    simp only [pick, List.filterMap_cons, List.filterMap_nil, List.getElem?_cons_zero, List.getElem?_cons_succ, List.cons_append, List.nil_append] at h17
    subst r
    refine RetOk.mk (.agg h16 rfl (.cons 1 rfl .nil) FSkips.agg71 (.tmp_int rfl .nil)) ?_
    exact ⟨rfl, h17⟩
  ·
    replace hR := ifF hR hc14
    refine W.condT (congrArg Value.bool (congrArg Bool.not (Bool.eq_false_iff.2 hc14))) ?_
    refine W.seq_k fun K18 hK18 => ?_
    refine W.regionT [(0, true), (1, false), (2, true)] (by kernel_rfl) ?_
    refine Plan.buildZ FSkips.row71 FSkips.z71 rfl ?_
    refine Plan.storeA (f' := fun q => VU .u8 ((fun _ => 0#8) q)) h11 1 rfl rfl rfl rfl (fun _ _ => rfl) FSkips.sz71 rfl fun w19 h19 => ?_
    simp only [List.cons_append, List.nil_append, List.set_cons_zero, List.set_cons_succ] at h19
    refine Plan.assign_int rfl rfl ?_
    refine Plan.nil ?_
    refine hK18 _ _ ?_; clear hK18
    refine W.ret (thenR_ret (finR_ret ?_))
    have h20 := St.pickT (C := [_, _, _, _]) h19 [2, 3] (by decide)
    simp only [pick, List.filterMap_cons, List.filterMap_nil, List.getElem?_cons_zero, List.getElem?_cons_succ, List.cons_append, List.nil_append] at h20
    subst r
    refine RetOk.mk (.agg h19 rfl (.cons 1 rfl .nil) FSkips.agg71 (.tmp_int rfl .nil)) ?_
    exact ⟨rfl, h20⟩


set_option maxRecDepth 8000 in
set_option maxHeartbeats 1000000 in
theorem skips_Table_Take_ok {B : Nat} {w0 : Base} {w : World} {L : List Rg} {bt1 : Nat} {tmost2 : Int} {tkeys3 : List ((BitVec 32 × BitVec 32) × (Nat → BitVec 8))} {mtkeys3 : Nat} {turn4 : BitVec 32} {n_5 : BitVec 32} {r : ((Nat → BitVec 8) × Nat × (List ((BitVec 32 × BitVec 32) × (Nat → BitVec 8))))} (hR : skips_Table_Take tmost2 tkeys3 turn4 n_5 r) (HST : St B (w0.on [mapR kv2 D71 [] mtkeys3 tkeys3]) (⟨some bt1, 0, 1, fun _ => .int .i64 tmost2, true⟩ :: ⟨some bt1, 1, 1, fun _ => .map (some mtkeys3), true⟩ :: L) w) :
    Calls Try.prog 39 #[.pointer (some ⟨bt1, 0, none⟩), VU .u32 turn4, VU .u32 n_5] w fun e w' => e = .returned (.tuple #[AG [(32, fun q => VU .u8 (r.1 q))], VN r.2.1]) ∧ St B (w0.on [mapR kv2 D71 [] mtkeys3 r.2.2]) (⟨some bt1, 0, 1, fun _ => .int .i64 tmost2, true⟩ :: ⟨some bt1, 1, 1, fun _ => .map (some mtkeys3), true⟩ :: L) w' := by
  refine W.enter 26 Try.func39 rfl rfl rfl ?_
  unfold skips_Table_Take at hR
  refine W.seq_k fun K6 hK6 => ?_
  refine W.regionT [(0, false), (1, true)] (by kernel_rfl) ?_
  refine Plan.alloc HST rfl FSkips.z71 PIn.nil fun b7 w7 hb7 h7 => ?_
  simp only [rngs, Nat.zero_add, Nat.reduceAdd, List.cons_append, List.nil_append] at h7
  refine Plan.assign_int rfl rfl ?_
  refine Plan.nil ?_
  refine hK6 _ _ ?_; clear hK6
  refine W.seq_k fun K8 hK8 => ?_
  refine W.regionT [(0, true), (1, true), (2, true), (3, false), (4, true), (5, true), (6, true), (7, false), (8, false), (9, true)] (by kernel_rfl) ?_
  refine Plan.move_ptr rfl rfl ?_
  refine Plan.move_int rfl rfl ?_
  refine Plan.move_int rfl rfl ?_
  have h9 := St.pickT (C := [_, _, _]) h7 [1, 2, 0] (by decide)
  simp only [pick, List.filterMap_cons, List.filterMap_nil, List.getElem?_cons_zero, List.getElem?_cons_succ, List.cons_append, List.nil_append] at h9
  obtain ⟨x_11, x_12, hr10, hR⟩ := hR
  refine Plan.call (vs := [.pointer (some ⟨bt1, 0, none⟩), VU .u32 turn4, VU .u32 n_5]) rfl FSkips.call38 rfl (skips_Table_Find_ok (w0 := w0) hr10 (show St B (w0.on [mapR kv2 D71 [] mtkeys3 tkeys3]) _ _ from h9)) ?_
  rintro _ w13 ⟨rfl, h13⟩
  replace h13 : St B (w0.on [mapR kv2 D71 [] mtkeys3 tkeys3]) _ _ := h13
  refine ⟨_, rfl, .inl ⟨PIn.keep (by exact PIn.nil) h13, ?_⟩⟩
  refine Plan.move_tuple rfl rfl ?_
  refine Plan.extract_agg rfl rfl rfl ?_
  refine Plan.extract_int rfl rfl rfl ?_
  refine Plan.alloc h13 rfl FSkips.z71 PIn.nil fun b14 w14 hb14 h14 => ?_
  simp only [rngs, Nat.zero_add, Nat.reduceAdd, List.cons_append, List.nil_append] at h14
  refine Plan.storeA (f' := fun q => VU .u8 (x_11 q)) h14 0 rfl rfl rfl rfl (fun _ _ => rfl) FSkips.sz71 rfl fun w15 h15 => ?_
  simp only [List.cons_append, List.nil_append, List.set_cons_zero, List.set_cons_succ] at h15
  refine Plan.assign_int rfl rfl ?_
  refine Plan.nil ?_
  refine hK8 _ _ ?_; clear hK8
  refine W.seq_k fun K16 hK16 => ?_
  refine W.regionT [(0, true), (1, true), (2, true), (3, true), (4, true), (5, true), (6, true), (7, false)] (by kernel_rfl) ?_
  refine Plan.move_ptr rfl rfl ?_
  refine Plan.nilCheck rfl rfl ?_
  refine Plan.fieldAddr 1 FSkips.fld134_1 rfl rfl ?_
  refine Plan.load0 h15 2 rfl rfl rfl (by omega) FSkips.sc132 ?_
  refine Plan.move_int rfl rfl ?_
  refine Plan.move_int rfl rfl ?_
  refine Plan.buildP (ps := [(1, fun _ => VU .u32 turn4), (1, fun _ => VU .u32 n_5)]) FSkips.pl138 (by decide) FSkips.z138 rfl rfl (.one [] [(1, fun _ => VU .u32 (0#32))] (fun _ => VU .u32 (0#32)) rfl rfl (.one [(1, fun _ => VU .u32 turn4)] [] (fun _ => VU .u32 (0#32)) rfl rfl .nil)) ?_
  refine Plan.delM (w0 := w0) (N := [mapR kv2 D71 [] mtkeys3 tkeys3]) (k := (turn4, n_5)) h15 0 FSkips.key138 FSkips.mapt132 rfl rfl rfl rfl (by exact (EffO.wait rfl)) fun w17 h17 => ?_
  simp only [List.set_cons_zero, List.set_cons_succ] at h17
  refine Plan.nil ?_
  refine hK16 _ _ ?_; clear hK16
  refine W.seq_k fun K18 hK18 => ?_
  refine W.regionT [(0, true), (1, true), (2, false), (3, true)] (by kernel_rfl) ?_
  refine Plan.loadA1 h17 0 rfl rfl rfl FSkips.agg71 ?_
  refine Plan.move_int rfl rfl ?_
  refine Plan.storeA (f' := fun q => VU .u8 (x_11 q)) h17 3 rfl rfl rfl rfl (fun _ _ => rfl) FSkips.sz71 rfl fun w19 h19 => ?_
  simp only [List.cons_append, List.nil_append, List.set_cons_zero, List.set_cons_succ] at h19
  refine Plan.assign_int rfl rfl ?_
  refine Plan.nil ?_
  refine hK18 _ _ ?_; clear hK18
  refine W.ret (finR_ret ?_)
  have h20 := St.pickT (C := [_, _, _, _]) h19 [1, 2] (by decide)
  simp only [pick, List.filterMap_cons, List.filterMap_nil, List.getElem?_cons_zero, List.getElem?_cons_succ, List.cons_append, List.nil_append] at h20
  subst r
  refine RetOk.mk (.agg h19 rfl (.cons 3 rfl .nil) FSkips.agg71 (.tmp_int rfl .nil)) ?_
  exact ⟨rfl, h20⟩


set_option maxRecDepth 8000 in
set_option maxHeartbeats 1000000 in
theorem skips_Table_Len_ok {B : Nat} {w0 : Base} {w : World} {L : List Rg} {bt1 : Nat} {tmost2 : Int} {tkeys3 : List ((BitVec 32 × BitVec 32) × (Nat → BitVec 8))} {mtkeys3 : Nat} {r : Nat} (hR : skips_Table_Len tmost2 tkeys3 r) (HST : St B (w0.on [mapR kv2 D71 [] mtkeys3 tkeys3]) (⟨some bt1, 0, 1, fun _ => .int .i64 tmost2, true⟩ :: ⟨some bt1, 1, 1, fun _ => .map (some mtkeys3), true⟩ :: L) w) :
    Calls Try.prog 37 #[.pointer (some ⟨bt1, 0, none⟩)] w fun e w' => e = .returned (VN r) ∧ St B (w0.on [mapR kv2 D71 [] mtkeys3 tkeys3]) (⟨some bt1, 0, 1, fun _ => .int .i64 tmost2, true⟩ :: ⟨some bt1, 1, 1, fun _ => .map (some mtkeys3), true⟩ :: L) w' := by
  refine W.enter 8 Try.func37 rfl rfl rfl ?_
  unfold skips_Table_Len at hR
  refine W.seq_k fun K4 hK4 => ?_
  refine W.regionT [(0, true)] (by kernel_rfl) ?_
  refine Plan.assign_int rfl rfl ?_
  refine Plan.nil ?_
  refine hK4 _ _ ?_; clear hK4
  refine W.seq_k fun K5 hK5 => ?_
  refine W.regionT [(0, true), (1, true), (2, true), (3, true), (4, false), (5, true)] (by kernel_rfl) ?_
  refine Plan.move_ptr rfl rfl ?_
  refine Plan.nilCheck rfl rfl ?_
  refine Plan.fieldAddr 1 FSkips.fld134_1 rfl rfl ?_
  refine Plan.load0 HST 1 rfl rfl rfl (by omega) FSkips.sc132 ?_
  refine Plan.lenM (w0 := w0) (N := [mapR kv2 D71 [] mtkeys3 tkeys3]) HST 0 FSkips.mapt132 rfl rfl rfl (by exact (EffO.wait rfl)) fun w6 h6 => ?_
  refine Plan.assign_int rfl rfl ?_
  refine Plan.nil ?_
  refine hK5 _ _ ?_; clear hK5
  refine W.ret (finR_ret ?_)
  subst r
  refine RetOk.mk (.tmp_int rfl .nil) ?_
  exact ⟨rfl, h6⟩


set_option maxRecDepth 8000 in
set_option maxHeartbeats 1000000 in
theorem skips_Table_List_ok {B : Nat} {w0 : Base} {w : World} {L : List Rg} {bt1 : Nat} {tmost2 : Int} {tkeys3 : List ((BitVec 32 × BitVec 32) × (Nat → BitVec 8))} {mtkeys3 : Nat} {r : (List ((BitVec 32) × (BitVec 32) × (Nat → BitVec 8)))} (hR : skips_Table_List tmost2 tkeys3 r) (HST : St B (w0.on [mapR kv2 D71 [] mtkeys3 tkeys3]) (⟨some bt1, 0, 1, fun _ => .int .i64 tmost2, true⟩ :: ⟨some bt1, 1, 1, fun _ => .map (some mtkeys3), true⟩ :: L) w) :
    Calls Try.prog 40 #[.pointer (some ⟨bt1, 0, none⟩)] w fun e w' => ∃ ay0 : Option Addr, ∃ py0 : Option Nat, ∃ ny0 : Nat, ∃ cy0 : Nat, ∃ Fy0 : Nat → Value, e = .returned (.slice ay0 ny0 cy0) ∧ St B (w0.on [mapR kv2 D71 [] mtkeys3 tkeys3]) (⟨py0, 0, cy0 * 34, Fy0, true⟩ :: ⟨some bt1, 0, 1, fun _ => .int .i64 tmost2, true⟩ :: ⟨some bt1, 1, 1, fun _ => .map (some mtkeys3), true⟩ :: L) w' ∧ LO D81 [] ay0 py0 ny0 cy0 Fy0 r := by
  refine W.enter 28 Try.func40 rfl rfl rfl ?_
  unfold skips_Table_List at hR
  refine W.seq_k fun K4 hK4 => ?_
  refine W.regionT [(0, true)] (by kernel_rfl) ?_
  refine Plan.assign_slice rfl rfl ?_
  refine Plan.nil ?_
  refine hK4 _ _ ?_; clear hK4
  refine W.seq_k fun K5 hK5 => ?_
  refine W.regionT [(0, true)] (by kernel_rfl) ?_
  refine Plan.assign_slice rfl rfl ?_
  refine Plan.nil ?_
  refine hK5 _ _ ?_; clear hK5
  refine W.seq_k fun K6 hK6 => ?_
  refine W.seq_k fun K7 hK7 => ?_
  refine W.regionT [(0, true), (1, true), (2, true), (3, true), (4, false)] (by kernel_rfl) ?_
  refine Plan.move_ptr rfl rfl ?_
  refine Plan.nilCheck rfl rfl ?_
  refine Plan.fieldAddr 1 FSkips.fld134_1 rfl rfl ?_
  refine Plan.load0 HST 1 rfl rfl rfl (by omega) FSkips.sc132 ?_
  refine Plan.rangeM (w0 := w0) (N := [mapR kv2 D71 [] mtkeys3 tkeys3]) HST 0 FSkips.mapt132 rfl rfl rfl (by exact (EffO.wait rfl)) fun r8 Z8 c8 w8 hz8 h8 => ?_
  simp only [List.set_cons_zero, List.set_cons_succ] at h8
  refine Plan.nil ?_
  refine hK7 _ _ ?_; clear hK7
  have h45 : St B (w0.on [itR kv2 D71 r8 mtkeys3 Z8 c8 Z8, mapX kv2 D71 [] mtkeys3 tkeys3 Z8 c8]) (⟨none, 0, 0 * 34, fun _ => undef, true⟩ :: _) _ := h8.nilE (fun _ => undef)
  rw [← hz8.hX] at hR
  obtain ⟨Q44, hQ44⟩ : ∃ Q : (List ((BitVec 32) × (BitVec 32) × (Nat → BitVec 8))) → Prop, RangeR _ Q _ _ _ ∧ Q = _ := ⟨_, hR, rfl⟩; clear hR
  refine W.cutN (fun e w => ∃ s44 : (List ((BitVec 32) × (BitVec 32) × (Nat → BitVec 8))), Q44 s44 ∧ ∃ n_out42 : Nat, ∃ aout42 : Option Addr, ∃ pout42 : Option Nat, ∃ cout42 : Nat, ∃ Fout42 : Nat → Value, EnvHas e [(3, .slice aout42 n_out42 cout42), (10, .pointer (some ⟨r8, 0, none⟩))] ∧ St B (w0.on [itR kv2 D71 r8 mtkeys3 Z8 c8 ([] : List (ZE (BitVec 32 × BitVec 32) D71)), mapX kv2 D71 [] mtkeys3 tkeys3 Z8 c8]) (⟨pout42, 0, cout42 * 34, Fout42, true⟩ :: ⟨some bt1, 0, 1, fun _ => .int .i64 tmost2, true⟩ :: ⟨some bt1, 1, 1, fun _ => .map (some mtkeys3), true⟩ :: L) w ∧ LO D81 [] aout42 pout42 n_out42 cout42 Fout42 s44) ?_ ?_
  ·
    refine W.block ?_
    refine W.range hQ44.1 (fun (Y44 : List (ZE (BitVec 32 × BitVec 32) D71)) (s44 : (List ((BitVec 32) × (BitVec 32) × (Nat → BitVec 8)))) e w => ∃ n_out42 : Nat, ∃ aout42 : Option Addr, ∃ pout42 : Option Nat, ∃ cout42 : Nat, ∃ Fout42 : Nat → Value, EnvHas e [(3, .slice aout42 n_out42 cout42), (10, .pointer (some ⟨r8, 0, none⟩))] ∧ St B (w0.on [itR kv2 D71 r8 mtkeys3 Z8 c8 Y44, mapX kv2 D71 [] mtkeys3 tkeys3 Z8 c8]) (⟨pout42, 0, cout42 * 34, Fout42, true⟩ :: ⟨some bt1, 0, 1, fun _ => .int .i64 tmost2, true⟩ :: ⟨some bt1, 1, 1, fun _ => .map (some mtkeys3), true⟩ :: L) w ∧ LO D81 [] aout42 pout42 n_out42 cout42 Fout42 s44) ⟨0, none, none, 0, (fun _ => undef), (EnvHas.cons rfl (EnvHas.cons rfl EnvHas.nil)), h45, LO.nil⟩ ?_
    clear hQ44
    rintro Y44 out42 hR ev46 wl46 ⟨n_out42, aout42, pout42, cout42, Fout42, he46, h46, hout42⟩
    obtain rfl : List.length (α := ((BitVec 32) × (BitVec 32) × (Nat → BitVec 8))) out42 = n_out42 := hout42.hl
    obtain ⟨ev46, rfl⟩ := he46.open
    refine W.seq_k fun K47 hK47 => ?_
    refine W.regionT [(0, false), (1, true)] (by kernel_rfl) ?_
    refine Plan.nextM (w0 := w0) (D := D71) (N := [itR kv2 D71 r8 mtkeys3 Z8 c8 Y44, mapX kv2 D71 [] mtkeys3 tkeys3 Z8 c8]) h46 0 1 rfl rfl rfl rfl (by exact (EffO.keep PIn.nil)) (fun hy48 w48 h48 => ?_) ?_
    ·
      replace hR := hR.nil (by rw [hy48]; rfl)
      subst hy48
      refine Plan.extract_bool rfl rfl rfl ?_
      refine Plan.nil ?_
      refine hK47 _ _ ?_; clear hK47
      refine W.seq_k fun K50 hK50 => ?_
      refine W.condF rfl ?_
      refine W.exit (thenR_exit (rangeQ_exit (blockR_here ?_)))
      exact ⟨out42, hR, out42.length, aout42, pout42, cout42, Fout42, (EnvHas.cons rfl (EnvHas.cons rfl EnvHas.nil)), h48, hout42⟩
    ·
      rintro q49 ⟨bo49, kx49, b49, vx49⟩ hq49 w48 h48
      simp only [List.set_cons_zero, List.set_cons_succ] at h48
      obtain ⟨o44, hR, hrest49⟩ := hR.cons (i := q49) (p := (kx49, vx49)) (by rw [List.getElem?_map, hq49]; rfl)
      unfold skips_Table_List_l0 at hR
      dsimp only at hR
      refine Plan.extract_bool rfl rfl rfl ?_
      refine Plan.nil ?_
      refine hK47 _ _ ?_; clear hK47
      refine W.seq_k fun K51 hK51 => ?_
      refine W.condT rfl ?_
      refine W.skip ?_
      refine hK51 _ _ ?_; clear hK51
      refine W.block ?_
      refine W.seq_k fun K52 hK52 => ?_
      refine W.regionT [(0, false), (1, true), (2, true), (3, false), (4, false), (5, false), (6, false)] (by kernel_rfl) ?_
      refine Plan.entryM (w0 := w0) (D := D71) (N := [itE kv2 D71 r8 mtkeys3 Z8 c8 (Y44.eraseIdx q49) (bo49, kx49, b49, vx49), mapX kv2 D71 [] mtkeys3 tkeys3 Z8 c8]) h48 0 1 rfl rfl rfl rfl (by exact (EffO.keep PIn.nil)) fun w53 hs49 h53 => ?_
      simp only [List.set_cons_zero, List.set_cons_succ] at h53
      refine Plan.extract_agg rfl rfl rfl ?_
      refine Plan.extract_agg rfl rfl rfl ?_
      refine Plan.alloc h53 rfl FSkips.z138 PIn.nil fun b54 w54 hb54 h54 => ?_
      simp only [rngs, Nat.zero_add, Nat.reduceAdd, List.cons_append, List.nil_append] at h54
      refine Plan.alloc h54 rfl FSkips.z71 PIn.nil fun b55 w55 hb55 h55 => ?_
      simp only [rngs, Nat.zero_add, Nat.reduceAdd, List.cons_append, List.nil_append] at h55
      refine Plan.storeP (ps := [(1, fun _ => VU .u32 kx49.1), (1, fun _ => VU .u32 kx49.2)]) h55 rfl rfl rfl (.cons 1 rfl (.cons 2 rfl .nil)) ⟨fun _ _ => rfl, fun _ _ => rfl, trivial⟩ FSkips.sz138 (EffO.keep PIn.nil) fun w56 h56 => ?_
      simp only [List.cons_append, List.nil_append, List.set_cons_zero, List.set_cons_succ] at h56
      refine Plan.storeA (f' := fun q => VU .u8 (vx49 q)) h56 0 rfl rfl rfl rfl (fun _ _ => rfl) FSkips.sz71 rfl fun w57 h57 => ?_
      simp only [List.cons_append, List.nil_append, List.set_cons_zero, List.set_cons_succ] at h57
      refine Plan.nil ?_
      refine hK52 _ _ ?_; clear hK52
      refine W.regionT [(0, true), (1, true), (2, true), (3, true), (4, true), (5, true), (6, true), (7, false), (8, false), (9, true)] (by kernel_rfl) ?_
      refine Plan.move_slice rfl rfl ?_
      refine Plan.fieldAddr0 FSkips.fld138_0 rfl rfl ?_
      refine Plan.load0 h57 1 rfl rfl rfl (by omega) FSkips.sc73 ?_
      refine Plan.fieldAddr 1 FSkips.fld138_1 rfl rfl ?_
      refine Plan.load0 h57 2 rfl rfl rfl (by omega) FSkips.sc73 ?_
      refine Plan.loadA1 h57 0 rfl rfl rfl FSkips.agg71 ?_
      refine Plan.buildP (ps := [(1, fun _ => VU .u32 kx49.1), (1, fun _ => VU .u32 kx49.2), (32, fun q => VU .u8 (vx49 q))]) FSkips.pl81 (by decide) FSkips.z81 rfl rfl (.one [] [(1, fun _ => VU .u32 (0#32)), (32, fun q => VU .u8 ((fun _ => 0#8) q))] (fun _ => VU .u32 (0#32)) rfl rfl (.one [(1, fun _ => VU .u32 kx49.1)] [(32, fun q => VU .u8 ((fun _ => 0#8) q))] (fun _ => VU .u32 (0#32)) rfl rfl (.agg [(1, fun _ => VU .u32 kx49.1), (1, fun _ => VU .u32 kx49.2)] [(32, fun q => VU .u8 ((fun _ => 0#8) q))] [] [(32, fun q => VU .u8 (vx49 q))] rfl rfl .nil))) ?_
      refine Plan.buildLO (D := D81) (sz := 34) h57 [((), (kx49.1, kx49.2, vx49))] FSkips.slu78 FSkips.sz81 FSkips.zv81 (by decide) (by decide) rfl rfl rfl rfl (fun _ _ => trivial) (EffO.keep (PIn.cons 0 rfl (PIn.cons 2 rfl (PIn.cons 1 rfl PIn.nil)))) fun b59 w59 F59 hb59 ho59 h59 => ?_
      replace ho59 : LO D81 [] (some ⟨b59, 0, none⟩) (some b59) ([(kx49.1, kx49.2, vx49)] : List ((BitVec 32) × (BitVec 32) × (Nat → BitVec 8))).length 1 F59 ([(kx49.1, kx49.2, vx49)] : List ((BitVec 32) × (BitVec 32) × (Nat → BitVec 8))) := ho59.re (fun _ _ h => h)
      obtain ⟨hc61, hR⟩ := hR
      refine Plan.appendLO (D := D81) (X := out42) (Y := ([(kx49.1, kx49.2, vx49)] : List ((BitVec 32) × (BitVec 32) × (Nat → BitVec 8)))) (sz := 34) h59 () (0#32, 0#32, (fun _ => 0#8)) 4 hout42 rfl FSkips.el78 rfl FSkips.slu78 rfl rfl rfl rfl (LO.lvf D81_flat ho59 0 rfl) (fun _ _ h => h) hc61.1 hc61.2 (fun _ => EffO.keep (PIn.cons 1 rfl (PIn.cons 3 rfl (PIn.cons 2 rfl PIn.nil)))) fun a60 pb60 cap60 F60 w60 ho60 h60 => ?_
      simp only [List.cons_append, List.nil_append, List.set_cons_zero, List.set_cons_succ] at h60
      replace ho60 : LO D81 [] a60 pb60 (out42 ++ ([(kx49.1, kx49.2, vx49)] : List ((BitVec 32) × (BitVec 32) × (Nat → BitVec 8)))).length cap60 F60 (out42 ++ ([(kx49.1, kx49.2, vx49)] : List ((BitVec 32) × (BitVec 32) × (Nat → BitVec 8)))) := ho60.re (fun _ _ h => h)
      refine Plan.assign_slice rfl rfl ?_
      refine Plan.nil ?_
      refine blockR_norm ?_
      have h62 := St.pickT (C := [_, _, _, _, _, _, _]) h60 [4, 5, 6] (by decide)
      simp only [pick, List.filterMap_cons, List.filterMap_nil, List.getElem?_cons_zero, List.getElem?_cons_succ, List.cons_append, List.nil_append] at h62
      subst hR
      exact rangeQ_norm hq49 hrest49 ⟨(out42 ++ ([(kx49.1, kx49.2, vx49)] : List ((BitVec 32) × (BitVec 32) × (Nat → BitVec 8)))).length, a60, pb60, cap60, F60, (EnvHas.cons rfl (EnvHas.cons rfl EnvHas.nil)), h62, ho60⟩
  ·
    rintro ev63 wl63 ⟨out42, hR, n_out42, aout42, pout42, cout42, Fout42, he63, h63, hout42⟩
    rw [hQ44.2] at hR; clear hQ44
    try dsimp only at hR he63 h63 hout42
    obtain rfl : List.length (α := ((BitVec 32) × (BitVec 32) × (Nat → BitVec 8))) out42 = n_out42 := hout42.hl
    obtain ⟨ev63, rfl⟩ := he63.open
    have h64 : St B (w0.on [itR kv2 D71 r8 mtkeys3 Z8 c8 ([] : List (ZE (BitVec 32 × BitVec 32) D71)), mapR kv2 D71 [] mtkeys3 tkeys3]) _ _ := St.unfixM h63 (i := 1) rfl
    have h65 : St B (w0.on [mapR kv2 D71 [] mtkeys3 tkeys3]) _ _ := St.mpick (N := [itR kv2 D71 r8 mtkeys3 Z8 c8 ([] : List (ZE (BitVec 32 × BitVec 32) D71)), mapR kv2 D71 [] mtkeys3 tkeys3]) (N' := [mapR kv2 D71 [] mtkeys3 tkeys3]) h64 [1] (by decide) rfl
    refine hK6 _ _ ?_; clear hK6
    refine W.seq_k fun K66 hK66 => ?_
    refine W.regionT [(0, true), (1, false)] (by kernel_rfl) ?_
    refine Plan.move_slice rfl rfl ?_
    obtain ⟨hc69, hR⟩ := hR
    obtain ⟨cf67, hcf67, hsw67, hR⟩ := hR
    refine Plan.call (vs := [.slice aout42 out42.length cout42, .func (.func 71) #[] #[]]) rfl FSkips.call70 rfl (sortFn_ok (D := D81) (L0 := []) sortL70 Try.isAgg81 Try.sizeOf81 (enters_of Try.func71 (by kernel_rfl) rfl) h65 hout42 (kk := 0) rfl cf67 hsw67 (fun _ _ => rfl) (fun B w0 L' w b1 x1 b2 x2 hs _ _ => skips_order_ok (hcf67 x1 x2) hs) (fun _ _ _ hs => D81_flat _ _ _ _ hs) hc69 (by decide)) ?_
    rintro _ w68 ⟨rfl, so67, F68, hp67, hq67, ho68, h68⟩
    simp only [List.cons_append, List.nil_append, List.set_cons_zero, List.set_cons_succ] at h68
    replace hR := hR so67 hp67 hq67
    have e68 : so67.length = out42.length := hp67.length_eq
    refine ⟨_, rfl, .inl ⟨PIn.keep (by exact PIn.nil) h68, ?_⟩⟩
    refine Plan.nil ?_
    refine hK66 _ _ ?_; clear hK66
    refine W.seq_k fun K70 hK70 => ?_
    refine W.regionT [(0, true), (1, true)] (by kernel_rfl) ?_
    refine Plan.move_slice rfl rfl ?_
    refine Plan.assign_slice rfl rfl ?_
    refine Plan.nil ?_
    refine hK70 _ _ ?_; clear hK70
    refine W.ret (finR_ret ?_)
    subst r
    refine RetOk.mk (.tmp_slice rfl .nil) ?_
    exact ⟨aout42, pout42, out42.length, cout42, F68, rfl, h68, ho68⟩


set_option maxRecDepth 8000 in
set_option maxHeartbeats 1000000 in
theorem skips_Table_Copy_ok {B : Nat} {w0 : Base} {w : World} {L : List Rg} {bt1 : Nat} {tmost2 : Int} {tkeys3 : List ((BitVec 32 × BitVec 32) × (Nat → BitVec 8))} {mtkeys3 : Nat} {r : (Int × (List ((BitVec 32 × BitVec 32) × (Nat → BitVec 8))))} (hR : skips_Table_Copy tmost2 tkeys3 r) (HST : St B (w0.on [mapR kv2 D71 [] mtkeys3 tkeys3]) (⟨some bt1, 0, 1, fun _ => .int .i64 tmost2, true⟩ :: ⟨some bt1, 1, 1, fun _ => .map (some mtkeys3), true⟩ :: L) w) :
    Calls Try.prog 49 #[.pointer (some ⟨bt1, 0, none⟩)] w fun e w' => ∃ b0 : Nat, ∃ mw0_1 : Nat, e = .returned (.pointer (some ⟨b0, 0, none⟩)) ∧ St B (w0.on [mapR kv2 D71 [] mw0_1 r.2, mapR kv2 D71 [] mtkeys3 tkeys3]) (⟨some b0, 0, 1, fun _ => .int .i64 r.1, true⟩ :: ⟨some b0, 1, 1, fun _ => .map (some mw0_1), true⟩ :: ⟨some bt1, 0, 1, fun _ => .int .i64 tmost2, true⟩ :: ⟨some bt1, 1, 1, fun _ => .map (some mtkeys3), true⟩ :: L) w' := by
  refine W.enter 14 Try.func49 rfl rfl rfl ?_
  unfold skips_Table_Copy at hR
  refine W.seq_k fun K4 hK4 => ?_
  refine W.regionT [(0, true)] (by kernel_rfl) ?_
  refine Plan.assign_ptr rfl rfl ?_
  refine Plan.nil ?_
  refine hK4 _ _ ?_; clear hK4
  refine W.seq_k fun K5 hK5 => ?_
  refine W.regionD FSkips.mixed [(0, true), (1, true), (2, true), (3, true), (4, true), (5, true), (6, true), (7, true), (8, false), (9, true), (10, false), (11, true)] (by kernel_rfl) ?_
  have h6 := HST.drew
  refine Plan.move_ptr rfl rfl ?_
  refine Plan.nilCheck rfl rfl ?_
  refine Plan.fieldAddr0 FSkips.fld134_0 rfl rfl ?_
  refine Plan.load0 h6 0 rfl rfl rfl (by omega) FSkips.sc3 ?_
  refine Plan.move_ptr rfl rfl ?_
  refine Plan.nilCheck rfl rfl ?_
  refine Plan.fieldAddr 1 FSkips.fld134_1 rfl rfl ?_
  refine Plan.load0 h6 1 rfl rfl rfl (by omega) FSkips.sc132 ?_
  refine Plan.call (vs := [.map (some mtkeys3)]) rfl FSkips.call77 rfl (cloneM_ok (w0 := w0) (N := [mapR kv2 D71 [] mtkeys3 tkeys3]) cloneL77 h6 (j := 0) rfl) ?_
  rintro _ w7 ⟨m7, rfl, h7⟩
  refine ⟨_, rfl, .inl ⟨PIn.keep (by exact (PIn.cons 1 rfl (PIn.cons 0 rfl PIn.nil))) h7, ?_⟩⟩
  refine Plan.buildP (ps := [(1, fun _ => .int .i64 tmost2), (1, fun _ => .map (some m7))]) FSkips.pl134 (by decide) FSkips.z134 rfl rfl (.one [] [(1, fun _ => .map none)] (fun _ => VN 0) rfl rfl (.one [(1, fun _ => .int .i64 tmost2)] [] (fun _ => .map none) rfl rfl .nil)) ?_
  refine Plan.boxA h7 rfl rfl (PIn.cons 1 rfl (PIn.cons 0 rfl PIn.nil)) fun b8 w8 hb8 h8 => ?_
  simp only [rngs, Nat.zero_add, Nat.reduceAdd, List.cons_append, List.nil_append] at h8
  refine Plan.assign_ptr rfl rfl ?_
  refine Plan.nil ?_
  refine hK5 _ _ ?_; clear hK5
  refine W.ret (finR_ret ?_)
  subst r
  refine RetOk.mk (.tmp_ptr rfl .nil) ?_
  exact ⟨b8, m7, rfl, h8⟩

end Go.Proofs.Ytbkgblhmlenocaa
