/-
  WALKS of the package's functions, printed by this session's own program (auto.py).
-/
import Derived.Test.YtbkgblhmlenocaaProg
import Derived.Test.YtbkgblhmlenocaaEd
import Derived.Test.YtbkgblhmlenocaaRSkipsHands
import Derived.Test.YtbkgblhmlenocaaEls
import Derived.Test.YtbkgblhmlenocaaWLaw15
import Derived.Test.YtbkgblhmlenocaaWSkips
namespace Go.Proofs.Ytbkgblhmlenocaa
set_option linter.unusedSimpArgs false
set_option linter.unusedVariables false
set_option linter.unusedSectionVars false
open Go Go.LW
theorem FSkipsHands.call35 : callB Try.prog 35 = true := by kernel_rfl
theorem FSkipsHands.ptr67 : ptrB Try.prog 67 = true := by kernel_rfl
theorem FSkipsHands.isl66 : ∃ el, Try.prog.underlying 66 = some (.slice el) := ⟨71, by kernel_rfl⟩
theorem FSkipsHands.sl66 : slB Try.prog 66 32 = true := by kernel_rfl
theorem FSkipsHands.arr71 : arrB Try.prog 71 32 1 = true := by kernel_rfl
theorem FSkipsHands.z71 : zeroIs Try.prog 71 [(32, fun _ => VU .u8 0#8)] := zeroIs_agg (by kernel_rfl)
theorem FSkipsHands.zv71 : (Try.prog.info? 71).bind (·.zero) = some (AG [(32, fun _ => VU .u8 0#8)]) := by kernel_rfl
theorem FSkipsHands.slu66 : Try.prog.underlying 66 = some (.slice 71) := by kernel_rfl
theorem FSkipsHands.sz71 : szT Try.prog 71 32 = true := by kernel_rfl
theorem FSkipsHands.el66 : elD Try.prog 66 = some (32, 32, some (AG [(32, fun _ => VU .u8 0#8)])) := by kernel_rfl
theorem FSkipsHands.some3 : (Try.prog.underlying 3).isSome = true := by kernel_rfl
theorem FSkipsHands.u73 : Try.prog.underlying 73 = some (.int .u32) := by kernel_rfl
theorem FSkipsHands.agg71 : aggT Try.prog 71 32 = true := by kernel_rfl
theorem FSkipsHands.call36 : callB Try.prog 36 = true := by kernel_rfl
theorem FSkipsHands.call49 : callB Try.prog 49 = true := by kernel_rfl
theorem FSkipsHands.sc73 : scalarT Try.prog 73 = true := by kernel_rfl
theorem FSkipsHands.pl81 : placesB Try.prog 81 [(0, 1), (1, 1), (2, 32)] = true := by kernel_rfl
theorem FSkipsHands.z81 : zeroIs Try.prog 81 [(1, fun _ => VU .u32 0#32), (1, fun _ => VU .u32 0#32), (32, fun _ => VU .u8 0#8)] := zeroIs_agg (by kernel_rfl)
theorem FSkipsHands.zv81 : (Try.prog.info? 81).bind (·.zero) = some (AG [(1, fun _ => VU .u32 0#32), (1, fun _ => VU .u32 0#32), (32, fun _ => VU .u8 0#8)]) := by kernel_rfl
theorem FSkipsHands.slu78 : Try.prog.underlying 78 = some (.slice 81) := by kernel_rfl
theorem FSkipsHands.sz81 : szT Try.prog 81 34 = true := by kernel_rfl
theorem FSkipsHands.el78 : elD Try.prog 78 = some (34, 40, some (AG [(1, fun _ => VU .u32 0#32), (1, fun _ => VU .u32 0#32), (32, fun _ => VU .u8 0#8)])) := by kernel_rfl
theorem FSkipsHands.call40 : callB Try.prog 40 = true := by kernel_rfl
theorem FSkipsHands.isl78 : ∃ el, Try.prog.underlying 78 = some (.slice el) := ⟨81, by kernel_rfl⟩
theorem FSkipsHands.sl78 : slB Try.prog 78 34 = true := by kernel_rfl
theorem FSkipsHands.agg81 : aggT Try.prog 81 34 = true := by kernel_rfl
theorem FSkipsHands.int73 : intT Try.prog 73 .u32 = true := by kernel_rfl
theorem FSkipsHands.arrI71 : arrIB Try.prog 71 32 .u8 = true := by kernel_rfl
theorem FSkipsHands.flds81 : fieldsB Try.prog 81 [(73, 0), (73, 1), (71, 2)] = true := by kernel_rfl
theorem FSkipsHands.eqg81 : Try.prog.eqGuardType Try.prog.depth 81 = false := by kernel_rfl
theorem FSkipsHands.call50 : callB Try.prog 50 = true := by kernel_rfl
theorem FSkipsHands.call39 : callB Try.prog 39 = true := by kernel_rfl
theorem FSkipsHands.call37 : callB Try.prog 37 = true := by kernel_rfl

set_option maxRecDepth 8000 in
set_option maxHeartbeats 1000000 in
theorem lethelaw15_SkipsHands_ok {B : Nat} {w0 : Base} {w : World} {L : List Rg} {keys1 : List (Nat → BitVec 8)} {akeys1 : Option Addr} {nkeys1 ckeys1 ikeys1 : Nat} (hkeys1 : LV D71 L ikeys1 akeys1 nkeys1 ckeys1 keys1) {mark2 : BitVec 32} {r : Bool} (hR : lethelaw15_SkipsHands keys1 mark2 r) (HST : St B w0 (L) w) :
    Calls Try.prog 12 #[.slice akeys1 nkeys1 ckeys1, VU .u32 mark2] w fun e w' => e = .returned (.bool r) ∧ St B w0 (L) w' := by
  refine W.enter 157 Try.func12 rfl rfl rfl ?_
  unfold lethelaw15_SkipsHands at hR
  have ekeys1 := hkeys1.hl; subst ekeys1
  refine W.seq_k fun K3 hK3 => ?_
  refine W.regionT [(0, true)] (by kernel_rfl) ?_
  refine Plan.assign_bool rfl rfl ?_
  refine Plan.nil ?_
  refine hK3 _ _ ?_; clear hK3
  refine W.seq_k fun K4 hK4 => ?_
  refine W.regionT [(0, false), (1, true), (2, true), (3, true), (4, true), (5, true)] (by kernel_rfl) ?_
  rcases hR with ⟨x_6, hr5, hR⟩ | ⟨x_7, x_8, x_9, hr5, hR⟩
  ·
    refine Plan.call (vs := [VN 64]) rfl FSkipsHands.call35 rfl (skips_New_ok  hr5 HST) ?_
    rintro _ w10 ⟨rfl, h10⟩
    refine ⟨_, rfl, .inl ⟨PIn.keep PIn.nil h10, ?_⟩⟩
    refine Plan.move_tuple rfl rfl ?_
    refine Plan.extract_ptr rfl rfl rfl ?_
    refine Plan.extract_int rfl rfl rfl ?_
    refine Plan.assign_ptr rfl rfl ?_
    refine Plan.assign_int rfl rfl ?_
    refine Plan.nil ?_
    refine hK4 _ _ ?_; clear hK4
    refine W.seq_k fun K11 hK11 => ?_
    refine W.seq_k fun K16 hK16 => ?_
    refine W.regionT [(0, true), (1, true), (2, true), (3, true), (4, true), (5, true)] (by kernel_rfl) ?_
    refine Plan.move_int rfl rfl ?_
    by_cases hc17 : x_6 ≠ 0
    ·
      replace hR := ifT hR hc17
      refine Plan.cmpV (a := (((x_6 : Nat) : Int) : Int)) (b := (0 : Int)) (p := x_6 ≠ 0) (v := true) rfl rfl rfl rfl icmp_neN (decide_eq_true hc17) ?_
      refine Plan.move_bool rfl rfl ?_
      refine Plan.passed rfl ?_
      refine Plan.passed rfl ?_
      refine Plan.pickTb rfl rfl rfl ?_
      refine Plan.nil ?_
      refine hK16 _ _ ?_; clear hK16
      refine W.condT rfl ?_
      refine W.seq_k fun K18 hK18 => ?_
      refine W.regionT [(0, true)] (by kernel_rfl) ?_
      refine Plan.assign_bool rfl rfl ?_
      refine Plan.nil ?_
      refine hK18 _ _ ?_; clear hK18
      refine W.ret (thenR_ret (finR_ret ?_))
      subst r
      refine RetOk.mk (.tmp_bool rfl .nil) ?_
      exact ⟨rfl, h10⟩
    ·
      replace hR := ifF hR hc17
      refine Plan.cmpV (a := (((x_6 : Nat) : Int) : Int)) (b := (0 : Int)) (p := x_6 ≠ 0) (v := false) rfl rfl rfl rfl icmp_neN (decide_eq_false hc17) ?_
      refine Plan.move_bool rfl rfl ?_
      refine Plan.move_ptr rfl rfl ?_
      refine Plan.eqNil (b := true) FSkipsHands.ptr67 rfl rfl rfl rfl ?_
      refine Plan.pickFb rfl rfl rfl ?_
      refine Plan.nil ?_
      refine hK16 _ _ ?_; clear hK16
      refine W.condT rfl ?_
      refine W.seq_k fun K19 hK19 => ?_
      refine W.regionT [(0, true)] (by kernel_rfl) ?_
      refine Plan.assign_bool rfl rfl ?_
      refine Plan.nil ?_
      refine hK19 _ _ ?_; clear hK19
      refine W.ret (thenR_ret (finR_ret ?_))
      subst r
      refine RetOk.mk (.tmp_bool rfl .nil) ?_
      exact ⟨rfl, h10⟩
  ·
    refine Plan.call (vs := [VN 64]) rfl FSkipsHands.call35 rfl (skips_New_ok (w0 := w0) hr5 HST) ?_
    rintro _ w22 ⟨b0_20, mw0_1_21, rfl, h22⟩
    replace h22 : St B (w0.on [mapR kv2 D71 [] mw0_1_21 x_8]) _ _ := h22
    refine ⟨_, rfl, .inl ⟨PIn.keep PIn.nil h22, ?_⟩⟩
    refine Plan.move_tuple rfl rfl ?_
    refine Plan.extract_ptr rfl rfl rfl ?_
    refine Plan.extract_int rfl rfl rfl ?_
    refine Plan.assign_ptr rfl rfl ?_
    refine Plan.assign_int rfl rfl ?_
    refine Plan.nil ?_
    refine hK4 _ _ ?_; clear hK4
    refine W.seq_k fun K23 hK23 => ?_
    refine W.seq_k fun K27 hK27 => ?_
    refine W.regionT [(0, true), (1, true), (2, true), (3, true), (4, true), (5, true)] (by kernel_rfl) ?_
    refine Plan.move_int rfl rfl ?_
    by_cases hc28 : x_9 ≠ 0
    ·
      replace hR := ifT hR hc28
      refine Plan.cmpV (a := (((x_9 : Nat) : Int) : Int)) (b := (0 : Int)) (p := x_9 ≠ 0) (v := true) rfl rfl rfl rfl icmp_neN (decide_eq_true hc28) ?_
      refine Plan.move_bool rfl rfl ?_
      refine Plan.passed rfl ?_
      refine Plan.passed rfl ?_
      refine Plan.pickTb rfl rfl rfl ?_
      refine Plan.nil ?_
      refine hK27 _ _ ?_; clear hK27
      refine W.condT rfl ?_
      refine W.seq_k fun K29 hK29 => ?_
      refine W.regionT [(0, true)] (by kernel_rfl) ?_
      refine Plan.assign_bool rfl rfl ?_
      refine Plan.nil ?_
      refine hK29 _ _ ?_; clear hK29
      refine W.ret (thenR_ret (finR_ret ?_))
      have h30 := St.pickT (C := [_, _]) h22 [] (by decide)
      simp only [pick, List.filterMap_cons, List.filterMap_nil, List.getElem?_cons_zero, List.getElem?_cons_succ, List.cons_append, List.nil_append] at h30
      have h31 : St B w0 _ _ := St.mpick (N := [mapR kv2 D71 [] mw0_1_21 x_8]) (N' := []) h30 [] (by decide) rfl
      subst r
      refine RetOk.mk (.tmp_bool rfl .nil) ?_
      exact ⟨rfl, h31⟩
    ·
      replace hR := ifF hR hc28
      refine Plan.cmpV (a := (((x_9 : Nat) : Int) : Int)) (b := (0 : Int)) (p := x_9 ≠ 0) (v := false) rfl rfl rfl rfl icmp_neN (decide_eq_false hc28) ?_
      refine Plan.move_bool rfl rfl ?_
      refine Plan.move_ptr rfl rfl ?_
      refine Plan.eqNil (b := false) FSkipsHands.ptr67 rfl rfl rfl rfl ?_
      refine Plan.pickFb rfl rfl rfl ?_
      refine Plan.nil ?_
      refine hK27 _ _ ?_; clear hK27
      refine W.condF rfl ?_
      refine W.skip ?_
      refine hK23 _ _ ?_; clear hK23
      refine W.seq_k fun K32 hK32 => ?_
      obtain ⟨keys37, hX38, hR038⟩ := hR
      refine W.cutN (fun e w => ∃ y_keys37 : List (Nat → BitVec 8), (keys37 = y_keys37) ∧ ∃ ikeys37 : Nat, ∃ akeys37 : Option Addr, ∃ ckeys37 : Nat, EnvHas e [(0, .slice akeys37 y_keys37.length ckeys37), (1, VU .u32 mark2), (5, .pointer (some ⟨b0_20, 0, none⟩))] ∧ St B (w0.on [mapR kv2 D71 [] mw0_1_21 x_8]) (⟨some b0_20, 0, 1, fun _ => .int .i64 x_7, true⟩ :: ⟨some b0_20, 1, 1, fun _ => .map (some mw0_1_21), true⟩ :: L) w ∧ LV D71 L ikeys37 akeys37 y_keys37.length ckeys37 y_keys37) ?_ ?_
      ·
        replace hR := hX38
        refine W.seq_k fun K39 hK39 => ?_
        refine W.regionT [(0, true), (1, true), (2, true)] (by kernel_rfl) ?_
        refine Plan.move_slice rfl rfl ?_
        refine Plan.len FSkipsHands.isl66 rfl rfl ?_
        refine Plan.cmpP (a := (((keys1.length : Nat) : Int) : Int)) (b := (30 : Int)) (p := 30 < keys1.length) rfl rfl rfl rfl icmp_gtN ?_
        refine Plan.nil ?_
        refine hK39 _ _ ?_; clear hK39
        by_cases hc40 : 30 < keys1.length
        ·
          replace hR := ifT hR hc40
          refine W.condT (congrArg Value.bool (decide_eq_true hc40)) ?_
          refine W.regionT [(0, true), (1, true), (2, true)] (by kernel_rfl) ?_
          refine Plan.move_slice rfl rfl ?_
          obtain ⟨hc41, hR⟩ := hR
          refine Plan.slLV (D := D71) (sz := 32) (lo := 0) (hi := 30) hkeys1 rfl FSkipsHands.sl66 rfl rfl rfl ⟨_, rfl⟩ hc41 fun a42 c42 hv42 => ?_
          refine Plan.assign_slice rfl rfl ?_
          refine Plan.nil ?_
          exact ⟨(sgl keys1 0 30), hR, ikeys1, a42, c42, (EnvHas.cons rfl (EnvHas.cons rfl (EnvHas.cons rfl EnvHas.nil))), h22, hv42⟩
        ·
          replace hR := ifF hR hc40
          refine W.condF (congrArg Value.bool (decide_eq_false hc40)) ?_
          refine W.skip ?_
          exact ⟨keys1, hR, ikeys1, akeys1, ckeys1, (EnvHas.cons rfl (EnvHas.cons rfl (EnvHas.cons rfl EnvHas.nil))), h22, hkeys1⟩
      ·
        rintro ev43 wl43 ⟨y_keys37, hy43_0, ikeys37, akeys37, ckeys37, he43, h43, hkeys37⟩
        subst hy43_0
        obtain ⟨ev43, rfl⟩ := he43.open
        replace hR := hR038
        refine hK32 _ _ ?_; clear hK32
        refine W.seq_k fun K44 hK44 => ?_
        refine W.regionT [(0, true), (1, true), (2, false), (3, true), (4, false), (5, true)] (by kernel_rfl) ?_
        refine Plan.buildArr (ps := [(32, fun q => VU .u8 ((upd (fun _ => 0#8) 0 (1#8)) q))]) FSkipsHands.arr71 FSkipsHands.z71 rfl rfl (by kernel_rfl) ?_
        refine Plan.buildArr (ps := [(32, fun q => VU .u8 ((upd (fun _ => 0#8) 0 (2#8)) q))]) FSkipsHands.arr71 FSkipsHands.z71 rfl rfl (by kernel_rfl) ?_
        refine Plan.buildLO (D := D71) (sz := 32) h43 [((), (upd (fun _ => 0#8) 0 (1#8))), ((), (upd (fun _ => 0#8) 0 (2#8)))] FSkipsHands.slu66 FSkipsHands.sz71 FSkipsHands.zv71 (by decide) (by decide) rfl rfl rfl rfl (fun _ _ => trivial) (EffO.keep PIn.nil) fun b46 w46 F46 hb46 ho46 h46 => ?_
        replace ho46 : LO D71 [] (some ⟨b46, 0, none⟩) (some b46) ([(upd (fun _ => 0#8) 0 (1#8)), (upd (fun _ => 0#8) 0 (2#8))] : List (Nat → BitVec 8)).length 2 F46 ([(upd (fun _ => 0#8) 0 (1#8)), (upd (fun _ => 0#8) 0 (2#8))] : List (Nat → BitVec 8)) := ho46.re (fun _ _ h => h)
        refine Plan.move_slice rfl rfl ?_
        obtain ⟨hc48, hR⟩ := hR
        refine Plan.appendLO (D := D71) (X := ([(upd (fun _ => 0#8) 0 (1#8)), (upd (fun _ => 0#8) 0 (2#8))] : List (Nat → BitVec 8))) (Y := keys37) (sz := 32) h46 () (fun _ => 0#8) 0 ho46 rfl FSkipsHands.el66 rfl FSkipsHands.slu66 rfl rfl rfl rfl (hkeys37.app [_, _, _]) (fun _ _ h => h) hc48.1 hc48.2 (fun _ => EffO.keep PIn.nil) fun a47 pb47 cap47 F47 w47 ho47 h47 => ?_
        simp only [List.cons_append, List.nil_append, List.set_cons_zero, List.set_cons_succ] at h47
        replace ho47 : LO D71 [] a47 pb47 (([(upd (fun _ => 0#8) 0 (1#8)), (upd (fun _ => 0#8) 0 (2#8))] : List (Nat → BitVec 8)) ++ keys37).length cap47 F47 (([(upd (fun _ => 0#8) 0 (1#8)), (upd (fun _ => 0#8) 0 (2#8))] : List (Nat → BitVec 8)) ++ keys37) := ho47.re (fun _ _ h => h)
        refine Plan.assign_slice rfl rfl ?_
        refine Plan.nil ?_
        refine hK44 _ _ ?_; clear hK44
        refine W.seq_k fun K49 hK49 => ?_
        refine W.seq_k fun K50 hK50 => ?_
        refine W.regionT [(0, true), (1, true), (2, false), (3, true)] (by kernel_rfl) ?_
        refine Plan.move_ptr rfl rfl ?_
        refine Plan.move_slice rfl rfl ?_
        have h51 := St.pickT (C := [_, _, _]) h47 [1, 2, 0] (by decide)
        simp only [pick, List.filterMap_cons, List.filterMap_nil, List.getElem?_cons_zero, List.getElem?_cons_succ, List.cons_append, List.nil_append] at h51
        obtain ⟨x_53, x_54, hr52, hR⟩ := hR
        refine Plan.call (vs := [.pointer (some ⟨b0_20, 0, none⟩), VU .u32 (0#32), VU .u32 (0#32), .slice a47 ((([(upd (fun _ => 0#8) 0 (1#8)), (upd (fun _ => 0#8) 0 (2#8))] : List (Nat → BitVec 8)) ++ keys37).length) cap47]) rfl FSkipsHands.call36 rfl (skips_Table_Add_ok (w0 := w0) (by exact (LO.lvf D71_flat ho47 0 rfl)) hr52 (show St B (w0.on [mapR kv2 D71 [] mw0_1_21 x_8]) _ _ from h51)) ?_
        rintro _ w55 ⟨rfl, h55⟩
        replace h55 : St B (w0.on [mapR kv2 D71 [] mw0_1_21 x_54]) _ _ := h55
        refine ⟨_, rfl, .inl ⟨PIn.keep PIn.nil h55, ?_⟩⟩
        refine Plan.cmpP (a := (((x_53 : Nat) : Int) : Int)) (b := (0 : Int)) (p := x_53 ≠ 0) rfl rfl rfl rfl icmp_neN ?_
        refine Plan.nil ?_
        refine hK50 _ _ ?_; clear hK50
        by_cases hc56 : x_53 ≠ 0
        ·
          replace hR := ifT hR hc56
          refine W.condT (congrArg Value.bool (decide_eq_true hc56)) ?_
          refine W.seq_k fun K57 hK57 => ?_
          refine W.regionT [(0, true)] (by kernel_rfl) ?_
          refine Plan.assign_bool rfl rfl ?_
          refine Plan.nil ?_
          refine hK57 _ _ ?_; clear hK57
          refine W.ret (thenR_ret (finR_ret ?_))
          have h58 := St.pickT (C := [_, _, _]) h55 [] (by decide)
          simp only [pick, List.filterMap_cons, List.filterMap_nil, List.getElem?_cons_zero, List.getElem?_cons_succ, List.cons_append, List.nil_append] at h58
          have h59 : St B w0 _ _ := St.mpick (N := [mapR kv2 D71 [] mw0_1_21 x_54]) (N' := []) h58 [] (by decide) rfl
          subst r
          refine RetOk.mk (.tmp_bool rfl .nil) ?_
          exact ⟨rfl, h59⟩
        ·
          replace hR := ifF hR hc56
          refine W.condF (congrArg Value.bool (decide_eq_false hc56)) ?_
          refine W.skip ?_
          refine hK49 _ _ ?_; clear hK49
          refine W.seq_k fun K60 hK60 => ?_
          refine W.regionT [(0, true), (1, false), (2, true)] (by kernel_rfl) ?_
          refine Plan.move_ptr rfl rfl ?_
          obtain ⟨x_62, x_63, hr61, hR⟩ := hR
          refine Plan.call (vs := [.pointer (some ⟨b0_20, 0, none⟩)]) rfl FSkipsHands.call49 rfl (skips_Table_Copy_ok (w0 := w0) hr61 (show St B (w0.on [mapR kv2 D71 [] mw0_1_21 x_54]) _ _ from h55)) ?_
          rintro _ w66 ⟨b0_64, mw0_1_65, rfl, h66⟩
          replace h66 : St B (w0.on [mapR kv2 D71 [] mw0_1_65 x_63, mapR kv2 D71 [] mw0_1_21 x_54]) _ _ := h66
          refine ⟨_, rfl, .inl ⟨PIn.keep PIn.nil h66, ?_⟩⟩
          refine Plan.assign_ptr rfl rfl ?_
          refine Plan.nil ?_
          refine hK60 _ _ ?_; clear hK60
          refine W.seq_k fun K67 hK67 => ?_
          refine W.regionT [(0, true), (1, false), (2, true)] (by kernel_rfl) ?_
          refine Plan.move_ptr rfl rfl ?_
          have h68 := St.pickT (C := [_, _, _, _, _]) h66 [2, 3, 0, 1, 4] (by decide)
          simp only [pick, List.filterMap_cons, List.filterMap_nil, List.getElem?_cons_zero, List.getElem?_cons_succ, List.cons_append, List.nil_append] at h68
          have h69 : St B (w0.on [mapR kv2 D71 [] mw0_1_21 x_54, mapR kv2 D71 [] mw0_1_65 x_63]) _ _ := St.mpick (N := [mapR kv2 D71 [] mw0_1_65 x_63, mapR kv2 D71 [] mw0_1_21 x_54]) (N' := [mapR kv2 D71 [] mw0_1_21 x_54, mapR kv2 D71 [] mw0_1_65 x_63]) h68 [1, 0] (by decide) rfl
          obtain ⟨x_71, hr70, hR⟩ := hR
          refine Plan.call (vs := [.pointer (some ⟨b0_20, 0, none⟩)]) rfl FSkipsHands.call40 rfl (skips_Table_List_ok (w0 := (w0.on [mapR kv2 D71 [] mw0_1_65 x_63])) hr70 (show St B ((w0.on [mapR kv2 D71 [] mw0_1_65 x_63]).on [mapR kv2 D71 [] mw0_1_21 x_54]) _ _ from h69)) ?_
          rintro _ w77 ⟨ay0_72, py0_73, ny0_74, cy0_75, Fy0_76, rfl, h77, hf77_0⟩
          replace h77 : St B (w0.on [mapR kv2 D71 [] mw0_1_21 x_54, mapR kv2 D71 [] mw0_1_65 x_63]) _ _ := h77
          obtain rfl := hf77_0.hl
          refine ⟨_, rfl, .inl ⟨PIn.keep PIn.nil h77, ?_⟩⟩
          refine Plan.assign_slice rfl rfl ?_
          refine Plan.nil ?_
          refine hK67 _ _ ?_; clear hK67
          refine W.seq_k fun K78 hK78 => ?_
          refine W.regionT [(0, true), (1, false), (2, true)] (by kernel_rfl) ?_
          refine Plan.move_ptr rfl rfl ?_
          have h79 := St.pickT (C := [_, _, _, _, _, _]) h77 [1, 2, 0, 3, 4, 5] (by decide)
          simp only [pick, List.filterMap_cons, List.filterMap_nil, List.getElem?_cons_zero, List.getElem?_cons_succ, List.cons_append, List.nil_append] at h79
          obtain ⟨x_81, hr80, hR⟩ := hR
          refine Plan.call (vs := [.pointer (some ⟨b0_20, 0, none⟩)]) rfl FSkipsHands.call40 rfl (skips_Table_List_ok (w0 := (w0.on [mapR kv2 D71 [] mw0_1_65 x_63])) hr80 (show St B ((w0.on [mapR kv2 D71 [] mw0_1_65 x_63]).on [mapR kv2 D71 [] mw0_1_21 x_54]) _ _ from h79)) ?_
          rintro _ w87 ⟨ay0_82, py0_83, ny0_84, cy0_85, Fy0_86, rfl, h87, hf87_0⟩
          replace h87 : St B (w0.on [mapR kv2 D71 [] mw0_1_21 x_54, mapR kv2 D71 [] mw0_1_65 x_63]) _ _ := h87
          obtain rfl := hf87_0.hl
          refine ⟨_, rfl, .inl ⟨PIn.keep PIn.nil h87, ?_⟩⟩
          refine Plan.assign_slice rfl rfl ?_
          refine Plan.nil ?_
          refine hK78 _ _ ?_; clear hK78
          refine W.seq_k fun K88 hK88 => ?_
          refine W.seq_k fun K94 hK94 => ?_
          refine W.regionT [(0, true), (1, true), (2, true), (3, true), (4, true), (5, true), (6, true), (7, true), (8, true), (9, true), (10, true), (11, true), (12, true), (13, true), (14, true), (15, true)] (by kernel_rfl) ?_
          refine Plan.move_ptr rfl rfl ?_
          refine Plan.eqNil (b := false) FSkipsHands.ptr67 rfl rfl rfl rfl ?_
          refine Plan.move_bool rfl rfl ?_
          refine Plan.move_slice rfl rfl ?_
          refine Plan.len FSkipsHands.isl78 rfl rfl ?_
          refine Plan.move_slice rfl rfl ?_
          refine Plan.len FSkipsHands.isl66 rfl rfl ?_
          by_cases hc95 : x_71.length ≠ (([(upd (fun _ => 0#8) 0 (1#8)), (upd (fun _ => 0#8) 0 (2#8))] : List (Nat → BitVec 8)) ++ keys37).length
          ·
            replace hR := ifT hR hc95
            refine Plan.cmpV (a := (((x_71.length : Nat) : Int) : Int)) (b := ((((([(upd (fun _ => 0#8) 0 (1#8)), (upd (fun _ => 0#8) 0 (2#8))] : List (Nat → BitVec 8)) ++ keys37).length : Nat) : Int) : Int)) (p := x_71.length ≠ (([(upd (fun _ => 0#8) 0 (1#8)), (upd (fun _ => 0#8) 0 (2#8))] : List (Nat → BitVec 8)) ++ keys37).length) (v := true) rfl rfl rfl rfl icmp_neN (decide_eq_true hc95) ?_
            refine Plan.pickFb rfl rfl rfl ?_
            refine Plan.move_bool rfl rfl ?_
            refine Plan.passed rfl ?_
            refine Plan.passed rfl ?_
            refine Plan.passed rfl ?_
            refine Plan.passed rfl ?_
            refine Plan.passed rfl ?_
            refine Plan.pickTb rfl rfl rfl ?_
            refine Plan.nil ?_
            refine hK94 _ _ ?_; clear hK94
            refine W.condT rfl ?_
            refine W.seq_k fun K96 hK96 => ?_
            refine W.regionT [(0, true)] (by kernel_rfl) ?_
            refine Plan.assign_bool rfl rfl ?_
            refine Plan.nil ?_
            refine hK96 _ _ ?_; clear hK96
            refine W.ret (thenR_ret (finR_ret ?_))
            have h97 := St.pickT (C := [_, _, _, _, _, _, _]) h87 [] (by decide)
            simp only [pick, List.filterMap_cons, List.filterMap_nil, List.getElem?_cons_zero, List.getElem?_cons_succ, List.cons_append, List.nil_append] at h97
            have h98 : St B w0 _ _ := St.mpick (N := [mapR kv2 D71 [] mw0_1_21 x_54, mapR kv2 D71 [] mw0_1_65 x_63]) (N' := []) h97 [] (by decide) rfl
            subst r
            refine RetOk.mk (.tmp_bool rfl .nil) ?_
            exact ⟨rfl, h98⟩
          ·
            replace hR := ifF hR hc95
            refine Plan.cmpV (a := (((x_71.length : Nat) : Int) : Int)) (b := ((((([(upd (fun _ => 0#8) 0 (1#8)), (upd (fun _ => 0#8) 0 (2#8))] : List (Nat → BitVec 8)) ++ keys37).length : Nat) : Int) : Int)) (p := x_71.length ≠ (([(upd (fun _ => 0#8) 0 (1#8)), (upd (fun _ => 0#8) 0 (2#8))] : List (Nat → BitVec 8)) ++ keys37).length) (v := false) rfl rfl rfl rfl icmp_neN (decide_eq_false hc95) ?_
            refine Plan.pickFb rfl rfl rfl ?_
            refine Plan.move_bool rfl rfl ?_
            refine Plan.move_slice rfl rfl ?_
            refine Plan.len FSkipsHands.isl78 rfl rfl ?_
            refine Plan.move_slice rfl rfl ?_
            refine Plan.len FSkipsHands.isl78 rfl rfl ?_
            refine Plan.cmpP (a := (((x_81.length : Nat) : Int) : Int)) (b := (((x_71.length : Nat) : Int) : Int)) (p := x_81.length ≠ x_71.length) rfl rfl rfl rfl icmp_neN ?_
            refine Plan.pickFb rfl rfl rfl ?_
            refine Plan.nil ?_
            refine hK94 _ _ ?_; clear hK94
            by_cases hc99 : x_81.length ≠ x_71.length
            ·
              replace hR := ifT hR hc99
              refine W.condT (congrArg Value.bool (decide_eq_true hc99)) ?_
              refine W.seq_k fun K100 hK100 => ?_
              refine W.regionT [(0, true)] (by kernel_rfl) ?_
              refine Plan.assign_bool rfl rfl ?_
              refine Plan.nil ?_
              refine hK100 _ _ ?_; clear hK100
              refine W.ret (thenR_ret (finR_ret ?_))
              have h101 := St.pickT (C := [_, _, _, _, _, _, _]) h87 [] (by decide)
              simp only [pick, List.filterMap_cons, List.filterMap_nil, List.getElem?_cons_zero, List.getElem?_cons_succ, List.cons_append, List.nil_append] at h101
              have h102 : St B w0 _ _ := St.mpick (N := [mapR kv2 D71 [] mw0_1_21 x_54, mapR kv2 D71 [] mw0_1_65 x_63]) (N' := []) h101 [] (by decide) rfl
              subst r
              refine RetOk.mk (.tmp_bool rfl .nil) ?_
              exact ⟨rfl, h102⟩
            ·
              replace hR := ifF hR hc99
              refine W.condF (congrArg Value.bool (decide_eq_false hc99)) ?_
              refine W.skip ?_
              refine hK88 _ _ ?_; clear hK88
              refine W.seq_k fun K103 hK103 => ?_
              refine W.regionT [(0, false), (1, true), (2, false), (3, true)] (by kernel_rfl) ?_
              refine Plan.buildEL h87 (fun _ => undef) FSkipsHands.slu78 FSkipsHands.sz81 rfl (EffO.keep PIn.nil) fun b104 w104 hb104 h104 => ?_
              refine Plan.move_slice rfl rfl ?_
              obtain ⟨hc106, hR⟩ := hR
              refine Plan.appendLO (D := D81) (X := ([] : List ((BitVec 32) × (BitVec 32) × (Nat → BitVec 8)))) (Y := x_71) (sz := 34) h104 () (0#32, 0#32, (fun _ => 0#8)) 0 LO.empty rfl FSkipsHands.el78 rfl FSkipsHands.slu78 rfl rfl rfl rfl (LO.lvf D81_flat hf77_0 4 rfl) (fun _ _ h => h) hc106.1 hc106.2 (fun _ => EffO.keep PIn.nil) fun a105 pb105 cap105 F105 w105 ho105 h105 => ?_
              simp only [List.cons_append, List.nil_append, List.set_cons_zero, List.set_cons_succ] at h105
              replace ho105 : LO D81 [] a105 pb105 (([] : List ((BitVec 32) × (BitVec 32) × (Nat → BitVec 8))) ++ x_71).length cap105 F105 (([] : List ((BitVec 32) × (BitVec 32) × (Nat → BitVec 8))) ++ x_71) := ho105.re (fun _ _ h => h)
              refine Plan.assign_slice rfl rfl ?_
              refine Plan.nil ?_
              refine hK103 _ _ ?_; clear hK103
              refine W.seq_k fun K107 hK107 => ?_
              refine W.seq_k fun K108 hK108 => ?_
              refine W.regionT [(0, true)] (by kernel_rfl) ?_
              refine Plan.assign_int rfl rfl ?_
              refine Plan.nil ?_
              refine hK108 _ _ ?_; clear hK108
              obtain ⟨b126, hI127, hR0127⟩ := hR
              refine W.cutN (fun e w => ∃ y_b126 : List ((BitVec 32) × (BitVec 32) × (Nat → BitVec 8)), b126 = y_b126 ∧ ∃ n_b126 : Nat, ∃ ab126 : Option Addr, ∃ pb126 : Option Nat, ∃ cb126 : Nat, ∃ Fb126 : Nat → Value, EnvHas e [(0, .slice a47 ((([(upd (fun _ => 0#8) 0 (1#8)), (upd (fun _ => 0#8) 0 (2#8))] : List (Nat → BitVec 8)) ++ keys37).length) cap47), (1, VU .u32 mark2), (5, .pointer (some ⟨b0_20, 0, none⟩)), (7, .pointer (some ⟨b0_64, 0, none⟩)), (8, .slice ay0_72 x_71.length cy0_75), (9, .slice ab126 n_b126 cb126), (10, .slice a105 ((([] : List ((BitVec 32) × (BitVec 32) × (Nat → BitVec 8))) ++ x_71).length) cap105)] ∧ St B (w0.on [mapR kv2 D71 [] mw0_1_21 x_54, mapR kv2 D71 [] mw0_1_65 x_63]) (⟨pb126, 0, cb126 * 34, Fb126, true⟩ :: ⟨pb105, 0, cap105 * 34, F105, true⟩ :: ⟨some b0_20, 0, 1, fun _ => .int .i64 x_7, true⟩ :: ⟨some b0_20, 1, 1, fun _ => .map (some mw0_1_21), true⟩ :: ⟨py0_73, 0, cy0_75 * 34, Fy0_76, true⟩ :: ⟨some b0_64, 0, 1, fun _ => .int .i64 x_62, true⟩ :: ⟨some b0_64, 1, 1, fun _ => .map (some mw0_1_65), true⟩ :: ⟨pb47, 0, cap47 * 32, F47, true⟩ :: L) w ∧ LO D81 [] ab126 pb126 n_b126 cb126 Fb126 y_b126) ?_ ?_
              ·
                refine W.block ?_
                have h128 := St.pickT (C := [_, _, _, _, _, _, _, _]) h105 [1, 0, 2, 3, 4, 5, 6, 7] (by decide)
                simp only [pick, List.filterMap_cons, List.filterMap_nil, List.getElem?_cons_zero, List.getElem?_cons_succ, List.cons_append, List.nil_append] at h128
                refine W.iter hI127 (fun (s127 : ((List ((BitVec 32) × (BitVec 32) × (Nat → BitVec 8))) × Nat)) e w => ∃ n_b124 : Nat, ∃ ab124 : Option Addr, ∃ pb124 : Option Nat, ∃ cb124 : Nat, ∃ Fb124 : Nat → Value, EnvHas e [(0, .slice a47 ((([(upd (fun _ => 0#8) 0 (1#8)), (upd (fun _ => 0#8) 0 (2#8))] : List (Nat → BitVec 8)) ++ keys37).length) cap47), (1, VU .u32 mark2), (5, .pointer (some ⟨b0_20, 0, none⟩)), (7, .pointer (some ⟨b0_64, 0, none⟩)), (8, .slice ay0_72 x_71.length cy0_75), (9, .slice ab124 n_b124 cb124), (10, .slice a105 ((([] : List ((BitVec 32) × (BitVec 32) × (Nat → BitVec 8))) ++ x_71).length) cap105), (11, VN s127.2)] ∧ St B (w0.on [mapR kv2 D71 [] mw0_1_21 x_54, mapR kv2 D71 [] mw0_1_65 x_63]) (⟨pb124, 0, cb124 * 34, Fb124, true⟩ :: ⟨pb105, 0, cap105 * 34, F105, true⟩ :: ⟨some b0_20, 0, 1, fun _ => .int .i64 x_7, true⟩ :: ⟨some b0_20, 1, 1, fun _ => .map (some mw0_1_21), true⟩ :: ⟨py0_73, 0, cy0_75 * 34, Fy0_76, true⟩ :: ⟨some b0_64, 0, 1, fun _ => .int .i64 x_62, true⟩ :: ⟨some b0_64, 1, 1, fun _ => .map (some mw0_1_65), true⟩ :: ⟨pb47, 0, cap47 * 32, F47, true⟩ :: L) w ∧ LO D81 [] ab124 pb124 n_b124 cb124 Fb124 s127.1) ⟨x_81.length, ay0_82, py0_83, cy0_85, Fy0_86, (EnvHas.cons rfl (EnvHas.cons rfl (EnvHas.cons rfl (EnvHas.cons rfl (EnvHas.cons rfl (EnvHas.cons rfl (EnvHas.cons rfl (EnvHas.cons rfl EnvHas.nil)))))))), h128, hf87_0⟩ ?_
                rintro ⟨b124, i_125⟩ o127 hR hx127 ev129 wl129 ⟨n_b124, ab124, pb124, cb124, Fb124, he129, h129, hb124⟩
                try dsimp only at he129 h129 hb124
                obtain rfl : List.length (α := ((BitVec 32) × (BitVec 32) × (Nat → BitVec 8))) b124 = n_b124 := hb124.hl
                obtain ⟨ev129, rfl⟩ := he129.open
                unfold lethelaw15_SkipsHands_l0 at hR
                refine W.seq_k fun K130 hK130 => ?_
                refine W.seq_k fun K131 hK131 => ?_
                refine W.regionT [(0, true), (1, true), (2, true), (3, true)] (by kernel_rfl) ?_
                refine Plan.move_int rfl rfl ?_
                refine Plan.move_slice rfl rfl ?_
                refine Plan.len FSkipsHands.isl78 rfl rfl ?_
                refine Plan.cmpP (a := (((i_125 : Nat) : Int) : Int)) (b := (((b124.length : Nat) : Int) : Int)) (p := i_125 < b124.length) rfl rfl rfl rfl icmp_ltN ?_
                refine Plan.nil ?_
                refine hK131 _ _ ?_; clear hK131
                by_cases hc132 : i_125 < b124.length
                ·
                  replace hR := ifT hR hc132
                  refine W.condT (congrArg Value.bool (decide_eq_true hc132)) ?_
                  refine W.skip ?_
                  refine hK130 _ _ ?_; clear hK130
                  refine W.seq_k fun K133 hK133 => ?_
                  refine W.block ?_
                  refine W.regionT [(0, true), (1, true), (2, true), (3, true), (4, true), (5, true), (6, true), (7, false)] (by kernel_rfl) ?_
                  refine Plan.move_slice rfl rfl ?_
                  refine Plan.move_int rfl rfl ?_
                  refine Plan.move_int rfl rfl ?_
                  refine Plan.move_int rfl rfl ?_
                  refine Plan.convNU .u32 (a := i_125) FSkipsHands.u73 FSkipsHands.some3 rfl rfl ?_
                  refine Plan.buildP (ps := [(1, fun _ => VU .u32 mark2), (1, fun _ => VU .u32 (BitVec.ofNat 32 i_125)), (32, fun q => VU .u8 ((fun _ => 0#8) q))]) FSkipsHands.pl81 (by decide) FSkipsHands.z81 rfl rfl (.one [] [(1, fun _ => VU .u32 (0#32)), (32, fun q => VU .u8 ((fun _ => 0#8) q))] (fun _ => VU .u32 (0#32)) rfl rfl (.one [(1, fun _ => VU .u32 mark2)] [(32, fun q => VU .u8 ((fun _ => 0#8) q))] (fun _ => VU .u32 (0#32)) rfl rfl .nil)) ?_
                  obtain ⟨hc134, hR⟩ := hR
                  refine Plan.idxLVS (D := D81) (j := i_125) h129 (LO.lvf D81_flat hb124 0 rfl) FSkipsHands.sl78 rfl rfl rfl hc134 ?_
                  refine Plan.storeLO (D := D81) (j := i_125) (sz := 34) h129 () (mark2, (BitVec.ofNat 32 i_125), (fun _ => 0#8)) 0 hb124 trivial rfl rfl rfl rfl hc134 rfl FSkipsHands.sz81 (fun _ => EffO.keep PIn.nil) fun w135 F135 ho135 h135 => ?_
                  simp only [List.cons_append, List.nil_append, List.set_cons_zero, List.set_cons_succ] at h135
                  have e135 : (b124.set i_125 (mark2, (BitVec.ofNat 32 i_125), (fun _ => 0#8))).length = b124.length := List.length_set
                  refine Plan.nil ?_
                  refine blockR_norm ?_
                  refine hK133 _ _ ?_; clear hK133
                  refine W.regionT [(0, true), (1, true), (2, true)] (by kernel_rfl) ?_
                  refine Plan.move_int rfl rfl ?_
                  obtain ⟨hc136, hR⟩ := hR
                  refine Plan.addN (a := i_125) (b := 1) rfl rfl rfl (by omega) ?_
                  refine Plan.assign_int rfl rfl ?_
                  refine Plan.nil ?_
                  exact iterR_norm ⟨_, hR, b124.length, ab124, pb124, cb124, F135, (EnvHas.cons rfl (EnvHas.cons rfl (EnvHas.cons rfl (EnvHas.cons rfl (EnvHas.cons rfl (EnvHas.cons rfl (EnvHas.cons rfl (EnvHas.cons rfl EnvHas.nil)))))))), h135, (show LO D81 [] _ _ b124.length _ _ _ from ho135)⟩
                ·
                  replace hR := ifF hR hc132
                  refine W.condF (congrArg Value.bool (decide_eq_false hc132)) ?_
                  refine W.exit (thenR_exit (iterR_exit (blockR_here ?_)))
                  exact ⟨b124, (hx127 _ hR).symm, b124.length, ab124, pb124, cb124, Fb124, (EnvHas.cons rfl (EnvHas.cons rfl (EnvHas.cons rfl (EnvHas.cons rfl (EnvHas.cons rfl (EnvHas.cons rfl (EnvHas.cons rfl EnvHas.nil))))))), h129, hb124⟩
              ·
                rintro ev137 wl137 ⟨y_b126, hy137, n_b126, ab126, pb126, cb126, Fb126, he137, h137, hb126⟩
                obtain ⟨ev137, rfl⟩ := he137.open
                subst hy137
                replace hR := hR0127
                obtain rfl : List.length (α := ((BitVec 32) × (BitVec 32) × (Nat → BitVec 8))) b126 = n_b126 := hb126.hl
                refine hK107 _ _ ?_; clear hK107
                refine W.seq_k fun K138 hK138 => ?_
                refine W.regionT [(0, true), (1, true), (2, true), (3, false), (4, false), (5, true)] (by kernel_rfl) ?_
                refine Plan.move_slice rfl rfl ?_
                refine Plan.move_int rfl rfl ?_
                refine Plan.buildP (ps := [(1, fun _ => VU .u32 mark2), (1, fun _ => VU .u32 (999#32)), (32, fun q => VU .u8 ((fun _ => 0#8) q))]) FSkipsHands.pl81 (by decide) FSkipsHands.z81 rfl rfl (.one [] [(1, fun _ => VU .u32 (0#32)), (32, fun q => VU .u8 ((fun _ => 0#8) q))] (fun _ => VU .u32 (0#32)) rfl rfl (.one [(1, fun _ => VU .u32 mark2)] [(32, fun q => VU .u8 ((fun _ => 0#8) q))] (fun _ => VU .u32 (0#32)) rfl rfl .nil)) ?_
                refine Plan.buildLO (D := D81) (sz := 34) h137 [((), (mark2, 999#32, (fun _ => 0#8)))] FSkipsHands.slu78 FSkipsHands.sz81 FSkipsHands.zv81 (by decide) (by decide) rfl rfl rfl rfl (fun _ _ => trivial) (EffO.keep PIn.nil) fun b140 w140 F140 hb140 ho140 h140 => ?_
                replace ho140 : LO D81 [] (some ⟨b140, 0, none⟩) (some b140) ([(mark2, 999#32, (fun _ => 0#8))] : List ((BitVec 32) × (BitVec 32) × (Nat → BitVec 8))).length 1 F140 ([(mark2, 999#32, (fun _ => 0#8))] : List ((BitVec 32) × (BitVec 32) × (Nat → BitVec 8))) := ho140.re (fun _ _ h => h)
                obtain ⟨hc142, hR⟩ := hR
                refine Plan.appendLK (D := D81) (X := b126) (Y := ([(mark2, 999#32, (fun _ => 0#8))] : List ((BitVec 32) × (BitVec 32) × (Nat → BitVec 8)))) (sz := 34) h140 () (0#32, 0#32, (fun _ => 0#8)) 1 D81_flat hb126 rfl FSkipsHands.el78 rfl FSkipsHands.slu78 rfl rfl rfl rfl (LO.lvf D81_flat ho140 0 rfl) hc142.1 hc142.2 (fun _ _ => EffO.keep PIn.nil) fun a141 pb141 cap141 F141 r141 iz141 w141 ho141 hi141 hv141 h141 => ?_
                simp only [List.cons_append, List.nil_append, List.set_cons_zero, List.set_cons_succ] at h141 hv141
                refine Plan.assign_slice rfl rfl ?_
                refine Plan.nil ?_
                refine hK138 _ _ ?_; clear hK138
                refine W.seq_k fun K143 hK143 => ?_
                refine W.seq_k fun K144 hK144 => ?_
                refine W.regionT [(0, true), (1, true), (2, false), (3, true)] (by kernel_rfl) ?_
                refine Plan.move_slice rfl rfl ?_
                refine Plan.move_slice rfl rfl ?_
                obtain ⟨x_146, hr145, hR⟩ := hR
                refine Plan.call (vs := [.slice ay0_72 x_71.length cy0_75, .slice a105 ((([] : List ((BitVec 32) × (BitVec 32) × (Nat → BitVec 8))) ++ x_71).length) cap105]) rfl FSkipsHands.call50 rfl (lethelaw15_sameList_ok (by exact (LO.lvf D81_flat hf77_0 6 rfl)) (by exact (LO.lvf D81_flat ho105 3 rfl)) hr145 h141) ?_
                rintro _ w147 ⟨rfl, h147⟩
                refine ⟨_, rfl, .inl ⟨PIn.keep PIn.nil h147, ?_⟩⟩
                refine Plan.not rfl rfl ?_
                refine Plan.nil ?_
                refine hK144 _ _ ?_; clear hK144
                by_cases hc148 : x_146 = true
                ·
                  replace hR := ifT hR hc148
                  refine W.condF (congrArg Value.bool (congrArg Bool.not hc148)) ?_
                  refine W.skip ?_
                  refine hK143 _ _ ?_; clear hK143
                  refine W.seq_k fun K149 hK149 => ?_
                  refine W.regionT [(0, true), (1, false), (2, true), (3, true), (4, true), (5, false), (6, false), (7, true)] (by kernel_rfl) ?_
                  refine Plan.move_ptr rfl rfl ?_
                  have h150 := St.pickT (C := [_, _, _, _, _, _, _, _, _, _]) h147 [7, 8, 0, 1, 2, 3, 4, 5, 6, 9] (by decide)
                  simp only [pick, List.filterMap_cons, List.filterMap_nil, List.getElem?_cons_zero, List.getElem?_cons_succ, List.cons_append, List.nil_append] at h150
                  have h151 : St B (w0.on [mapR kv2 D71 [] mw0_1_65 x_63, mapR kv2 D71 [] mw0_1_21 x_54]) _ _ := St.mpick (N := [mapR kv2 D71 [] mw0_1_21 x_54, mapR kv2 D71 [] mw0_1_65 x_63]) (N' := [mapR kv2 D71 [] mw0_1_65 x_63, mapR kv2 D71 [] mw0_1_21 x_54]) h150 [1, 0] (by decide) rfl
                  obtain ⟨x_153, x_154, x_155, hr152, hR⟩ := hR
                  refine Plan.call (vs := [.pointer (some ⟨b0_64, 0, none⟩), VU .u32 (0#32), VU .u32 (0#32)]) rfl FSkipsHands.call39 rfl (skips_Table_Take_ok (w0 := (w0.on [mapR kv2 D71 [] mw0_1_21 x_54])) hr152 (show St B ((w0.on [mapR kv2 D71 [] mw0_1_21 x_54]).on [mapR kv2 D71 [] mw0_1_65 x_63]) _ _ from h151)) ?_
                  rintro _ w156 ⟨rfl, h156⟩
                  replace h156 : St B (w0.on [mapR kv2 D71 [] mw0_1_65 x_155, mapR kv2 D71 [] mw0_1_21 x_54]) _ _ := h156
                  refine ⟨_, rfl, .inl ⟨PIn.keep PIn.nil h156, ?_⟩⟩
                  refine Plan.move_tuple rfl rfl ?_
                  refine Plan.extract_agg rfl rfl rfl ?_
                  refine Plan.extract_int rfl rfl rfl ?_
                  refine Plan.alloc h156 rfl FSkipsHands.z71 PIn.nil fun b157 w157 hb157 h157 => ?_
                  simp only [rngs, Nat.zero_add, Nat.reduceAdd, List.cons_append, List.nil_append] at h157
                  refine Plan.storeA (f' := fun q => VU .u8 (x_153 q)) h157 0 rfl rfl rfl rfl (fun _ _ => rfl) FSkipsHands.sz71 rfl fun w158 h158 => ?_
                  simp only [List.cons_append, List.nil_append, List.set_cons_zero, List.set_cons_succ] at h158
                  refine Plan.assign_int rfl rfl ?_
                  refine Plan.nil ?_
                  refine hK149 _ _ ?_; clear hK149
                  refine W.seq_k fun K159 hK159 => ?_
                  refine W.regionT [(0, true), (1, true), (2, false), (3, false), (4, true)] (by kernel_rfl) ?_
                  refine Plan.move_ptr rfl rfl ?_
                  refine Plan.buildArr (ps := [(32, fun q => VU .u8 ((upd (fun _ => 0#8) 0 (9#8)) q))]) FSkipsHands.arr71 FSkipsHands.z71 rfl rfl (by kernel_rfl) ?_
                  refine Plan.buildLO (D := D71) (sz := 32) h158 [((), (upd (fun _ => 0#8) 0 (9#8)))] FSkipsHands.slu66 FSkipsHands.sz71 FSkipsHands.zv71 (by decide) (by decide) rfl rfl rfl rfl (fun _ _ => trivial) (EffO.keep PIn.nil) fun b161 w161 F161 hb161 ho161 h161 => ?_
                  replace ho161 : LO D71 [] (some ⟨b161, 0, none⟩) (some b161) ([(upd (fun _ => 0#8) 0 (9#8))] : List (Nat → BitVec 8)).length 1 F161 ([(upd (fun _ => 0#8) 0 (9#8))] : List (Nat → BitVec 8)) := ho161.re (fun _ _ h => h)
                  have h162 := St.pickT (C := [_, _, _, _, _, _, _, _, _, _, _, _]) h161 [2, 3, 0, 1, 4, 5, 6, 7, 8, 9, 10, 11] (by decide)
                  simp only [pick, List.filterMap_cons, List.filterMap_nil, List.getElem?_cons_zero, List.getElem?_cons_succ, List.cons_append, List.nil_append] at h162
                  obtain ⟨x_164, x_165, hr163, hR⟩ := hR
                  refine Plan.call (vs := [.pointer (some ⟨b0_64, 0, none⟩), VU .u32 (9#32), VU .u32 (9#32), .slice (some ⟨b161, 0, none⟩) (([(upd (fun _ => 0#8) 0 (9#8))] : List (Nat → BitVec 8)).length) 1]) rfl FSkipsHands.call36 rfl (skips_Table_Add_ok (w0 := (w0.on [mapR kv2 D71 [] mw0_1_21 x_54])) (by exact (LO.lvf D71_flat ho161 0 rfl)) hr163 (show St B ((w0.on [mapR kv2 D71 [] mw0_1_21 x_54]).on [mapR kv2 D71 [] mw0_1_65 x_155]) _ _ from h162)) ?_
                  rintro _ w166 ⟨rfl, h166⟩
                  replace h166 : St B (w0.on [mapR kv2 D71 [] mw0_1_65 x_165, mapR kv2 D71 [] mw0_1_21 x_54]) _ _ := h166
                  refine ⟨_, rfl, .inl ⟨PIn.keep PIn.nil h166, ?_⟩⟩
                  refine Plan.assign_int rfl rfl ?_
                  refine Plan.nil ?_
                  refine hK159 _ _ ?_; clear hK159
                  refine W.seq_k fun K167 hK167 => ?_
                  refine W.regionT [(0, true), (1, false), (2, true)] (by kernel_rfl) ?_
                  refine Plan.move_ptr rfl rfl ?_
                  have h168 := St.pickT (C := [_, _, _, _, _, _, _, _, _, _, _, _]) h166 [8, 9, 0, 1, 2, 3, 4, 5, 6, 7, 10, 11] (by decide)
                  simp only [pick, List.filterMap_cons, List.filterMap_nil, List.getElem?_cons_zero, List.getElem?_cons_succ, List.cons_append, List.nil_append] at h168
                  have h169 : St B (w0.on [mapR kv2 D71 [] mw0_1_21 x_54, mapR kv2 D71 [] mw0_1_65 x_165]) _ _ := St.mpick (N := [mapR kv2 D71 [] mw0_1_65 x_165, mapR kv2 D71 [] mw0_1_21 x_54]) (N' := [mapR kv2 D71 [] mw0_1_21 x_54, mapR kv2 D71 [] mw0_1_65 x_165]) h168 [1, 0] (by decide) rfl
                  obtain ⟨x_171, hr170, hR⟩ := hR
                  refine Plan.call (vs := [.pointer (some ⟨b0_20, 0, none⟩)]) rfl FSkipsHands.call40 rfl (skips_Table_List_ok (w0 := (w0.on [mapR kv2 D71 [] mw0_1_65 x_165])) hr170 (show St B ((w0.on [mapR kv2 D71 [] mw0_1_65 x_165]).on [mapR kv2 D71 [] mw0_1_21 x_54]) _ _ from h169)) ?_
                  rintro _ w177 ⟨ay0_172, py0_173, ny0_174, cy0_175, Fy0_176, rfl, h177, hf177_0⟩
                  replace h177 : St B (w0.on [mapR kv2 D71 [] mw0_1_21 x_54, mapR kv2 D71 [] mw0_1_65 x_165]) _ _ := h177
                  obtain rfl := hf177_0.hl
                  refine ⟨_, rfl, .inl ⟨PIn.keep PIn.nil h177, ?_⟩⟩
                  refine Plan.assign_slice rfl rfl ?_
                  refine Plan.nil ?_
                  refine hK167 _ _ ?_; clear hK167
                  refine W.seq_k fun K178 hK178 => ?_
                  refine W.seq_k fun K240 hK240 => ?_
                  obtain ⟨t264, hX265, hR0265⟩ := hR
                  refine W.cutN (fun e w => ∃ y_t264 : Bool, (t264 = y_t264) ∧ EnvHas e [(1, VU .u32 mark2), (9, .slice ab126 b126.length cb126), (141, .bool y_t264)] ∧ St B (w0.on [mapR kv2 D71 [] mw0_1_21 x_54, mapR kv2 D71 [] mw0_1_65 x_165]) (⟨pb141, 0, cap141 * 34, F141, true⟩ :: r141 :: L) w) ?_ ?_
                  ·
                    replace hR := hX265
                    refine W.regionT [(0, true), (1, true), (2, true), (3, true), (4, true), (5, true), (6, true), (7, true), (8, true), (9, false), (10, true), (11, true), (12, true), (13, true), (14, true), (15, false), (16, true), (17, true), (18, true), (19, true), (20, false), (21, true), (22, true), (23, true), (24, true), (25, true), (26, true), (27, false), (28, true), (29, true), (30, true), (31, true), (32, true), (33, true), (34, true), (35, true), (36, true), (37, true), (38, true), (39, true), (40, true), (41, true)] (by kernel_rfl) ?_
                    refine Plan.move_int rfl rfl ?_
                    by_cases hc266 : x_154 ≠ 0
                    ·
                      replace hR := ifT hR hc266
                      refine Plan.cmpV (a := (((x_154 : Nat) : Int) : Int)) (b := (0 : Int)) (p := x_154 ≠ 0) (v := true) rfl rfl rfl rfl icmp_neN (decide_eq_true hc266) ?_
                      refine Plan.move_bool rfl rfl ?_
                      refine Plan.passed rfl ?_
                      refine Plan.passed rfl ?_
                      refine Plan.pickTb rfl rfl rfl ?_
                      refine Plan.move_bool rfl rfl ?_
                      refine Plan.passed rfl ?_
                      refine Plan.passed rfl ?_
                      refine Plan.passed rfl ?_
                      refine Plan.passed rfl ?_
                      refine Plan.pickTb rfl rfl rfl ?_
                      refine Plan.move_bool rfl rfl ?_
                      refine Plan.passed rfl ?_
                      refine Plan.passed rfl ?_
                      refine Plan.passed rfl ?_
                      refine Plan.passed rfl ?_
                      refine Plan.pickTb rfl rfl rfl ?_
                      refine Plan.move_bool rfl rfl ?_
                      refine Plan.passed rfl ?_
                      refine Plan.passed rfl ?_
                      refine Plan.passed rfl ?_
                      refine Plan.passed rfl ?_
                      refine Plan.passed rfl ?_
                      refine Plan.pickTb rfl rfl rfl ?_
                      refine Plan.move_bool rfl rfl ?_
                      refine Plan.passed rfl ?_
                      refine Plan.passed rfl ?_
                      refine Plan.passed rfl ?_
                      refine Plan.passed rfl ?_
                      refine Plan.passed rfl ?_
                      refine Plan.pickTb rfl rfl rfl ?_
                      refine Plan.move_bool rfl rfl ?_
                      refine Plan.passed rfl ?_
                      refine Plan.passed rfl ?_
                      refine Plan.passed rfl ?_
                      refine Plan.passed rfl ?_
                      refine Plan.passed rfl ?_
                      refine Plan.passed rfl ?_
                      refine Plan.passed rfl ?_
                      refine Plan.passed rfl ?_
                      refine Plan.pickTb rfl rfl rfl ?_
                      refine Plan.nil ?_
                      have h267 := St.pickT (C := [_, _, _, _, _, _, _, _, _, _, _, _, _]) h177 [7, 9] (by decide)
                      simp only [pick, List.filterMap_cons, List.filterMap_nil, List.getElem?_cons_zero, List.getElem?_cons_succ, List.cons_append, List.nil_append] at h267
                      exact ⟨true, hR, (EnvHas.cons rfl (EnvHas.cons rfl (EnvHas.cons rfl EnvHas.nil))), h267⟩
                    ·
                      replace hR := ifF hR hc266
                      refine Plan.cmpV (a := (((x_154 : Nat) : Int) : Int)) (b := (0 : Int)) (p := x_154 ≠ 0) (v := false) rfl rfl rfl rfl icmp_neN (decide_eq_false hc266) ?_
                      refine Plan.move_bool rfl rfl ?_
                      refine Plan.move_int rfl rfl ?_
                      by_cases hc268 : x_164 ≠ 0
                      ·
                        replace hR := ifT hR hc268
                        refine Plan.cmpV (a := (((x_164 : Nat) : Int) : Int)) (b := (0 : Int)) (p := x_164 ≠ 0) (v := true) rfl rfl rfl rfl icmp_neN (decide_eq_true hc268) ?_
                        refine Plan.pickFb rfl rfl rfl ?_
                        refine Plan.move_bool rfl rfl ?_
                        refine Plan.passed rfl ?_
                        refine Plan.passed rfl ?_
                        refine Plan.passed rfl ?_
                        refine Plan.passed rfl ?_
                        refine Plan.pickTb rfl rfl rfl ?_
                        refine Plan.move_bool rfl rfl ?_
                        refine Plan.passed rfl ?_
                        refine Plan.passed rfl ?_
                        refine Plan.passed rfl ?_
                        refine Plan.passed rfl ?_
                        refine Plan.pickTb rfl rfl rfl ?_
                        refine Plan.move_bool rfl rfl ?_
                        refine Plan.passed rfl ?_
                        refine Plan.passed rfl ?_
                        refine Plan.passed rfl ?_
                        refine Plan.passed rfl ?_
                        refine Plan.passed rfl ?_
                        refine Plan.pickTb rfl rfl rfl ?_
                        refine Plan.move_bool rfl rfl ?_
                        refine Plan.passed rfl ?_
                        refine Plan.passed rfl ?_
                        refine Plan.passed rfl ?_
                        refine Plan.passed rfl ?_
                        refine Plan.passed rfl ?_
                        refine Plan.pickTb rfl rfl rfl ?_
                        refine Plan.move_bool rfl rfl ?_
                        refine Plan.passed rfl ?_
                        refine Plan.passed rfl ?_
                        refine Plan.passed rfl ?_
                        refine Plan.passed rfl ?_
                        refine Plan.passed rfl ?_
                        refine Plan.passed rfl ?_
                        refine Plan.passed rfl ?_
                        refine Plan.passed rfl ?_
                        refine Plan.pickTb rfl rfl rfl ?_
                        refine Plan.nil ?_
                        have h269 := St.pickT (C := [_, _, _, _, _, _, _, _, _, _, _, _, _]) h177 [7, 9] (by decide)
                        simp only [pick, List.filterMap_cons, List.filterMap_nil, List.getElem?_cons_zero, List.getElem?_cons_succ, List.cons_append, List.nil_append] at h269
                        exact ⟨true, hR, (EnvHas.cons rfl (EnvHas.cons rfl (EnvHas.cons rfl EnvHas.nil))), h269⟩
                      ·
                        replace hR := ifF hR hc268
                        refine Plan.cmpV (a := (((x_164 : Nat) : Int) : Int)) (b := (0 : Int)) (p := x_164 ≠ 0) (v := false) rfl rfl rfl rfl icmp_neN (decide_eq_false hc268) ?_
                        refine Plan.pickFb rfl rfl rfl ?_
                        refine Plan.move_bool rfl rfl ?_
                        refine Plan.move_slice rfl rfl ?_
                        refine Plan.move_slice rfl rfl ?_
                        obtain ⟨x_271, hr270, hR⟩ := hR
                        refine Plan.call (vs := [.slice ay0_172 x_171.length cy0_175, .slice a105 ((([] : List ((BitVec 32) × (BitVec 32) × (Nat → BitVec 8))) ++ x_71).length) cap105]) rfl FSkipsHands.call50 rfl (lethelaw15_sameList_ok (by exact (LO.lvf D81_flat hf177_0 0 rfl)) (by exact (LO.lvf D81_flat ho105 10 rfl)) hr270 h177) ?_
                        rintro _ w272 ⟨rfl, h272⟩
                        refine ⟨_, rfl, .inl ⟨PIn.keep PIn.nil h272, ?_⟩⟩
                        by_cases hc273 : x_271 = true
                        ·
                          replace hR := ifT hR hc273
                          obtain rfl : x_271 = true := hc273
                          refine Plan.notT rfl rfl ?_
                          refine Plan.pickFb rfl rfl rfl ?_
                          refine Plan.move_bool rfl rfl ?_
                          refine Plan.move_slice rfl rfl ?_
                          refine Plan.move_slice rfl rfl ?_
                          obtain ⟨x_275, hr274, hR⟩ := hR
                          refine Plan.call (vs := [.slice ay0_72 x_71.length cy0_75, .slice a105 ((([] : List ((BitVec 32) × (BitVec 32) × (Nat → BitVec 8))) ++ x_71).length) cap105]) rfl FSkipsHands.call50 rfl (lethelaw15_sameList_ok (by exact (LO.lvf D81_flat hf77_0 11 rfl)) (by exact (LO.lvf D81_flat ho105 10 rfl)) hr274 h272) ?_
                          rintro _ w276 ⟨rfl, h276⟩
                          refine ⟨_, rfl, .inl ⟨PIn.keep PIn.nil h276, ?_⟩⟩
                          by_cases hc277 : x_275 = true
                          ·
                            replace hR := ifT hR hc277
                            obtain rfl : x_275 = true := hc277
                            refine Plan.notT rfl rfl ?_
                            refine Plan.pickFb rfl rfl rfl ?_
                            refine Plan.move_bool rfl rfl ?_
                            refine Plan.move_ptr rfl rfl ?_
                            have h278 := St.pickT (C := [_, _, _, _, _, _, _, _, _, _, _, _, _]) h276 [1, 2, 0, 3, 4, 5, 6, 7, 8, 9, 10, 11, 12] (by decide)
                            simp only [pick, List.filterMap_cons, List.filterMap_nil, List.getElem?_cons_zero, List.getElem?_cons_succ, List.cons_append, List.nil_append] at h278
                            obtain ⟨x_280, hr279, hR⟩ := hR
                            refine Plan.call (vs := [.pointer (some ⟨b0_20, 0, none⟩)]) rfl FSkipsHands.call37 rfl (skips_Table_Len_ok (w0 := (w0.on [mapR kv2 D71 [] mw0_1_65 x_165])) hr279 (show St B ((w0.on [mapR kv2 D71 [] mw0_1_65 x_165]).on [mapR kv2 D71 [] mw0_1_21 x_54]) _ _ from h278)) ?_
                            rintro _ w281 ⟨rfl, h281⟩
                            replace h281 : St B (w0.on [mapR kv2 D71 [] mw0_1_21 x_54, mapR kv2 D71 [] mw0_1_65 x_165]) _ _ := h281
                            refine ⟨_, rfl, .inl ⟨PIn.keep PIn.nil h281, ?_⟩⟩
                            refine Plan.move_slice rfl rfl ?_
                            refine Plan.len FSkipsHands.isl66 rfl rfl ?_
                            by_cases hc282 : x_280 ≠ (([(upd (fun _ => 0#8) 0 (1#8)), (upd (fun _ => 0#8) 0 (2#8))] : List (Nat → BitVec 8)) ++ keys37).length
                            ·
                              replace hR := ifT hR hc282
                              refine Plan.cmpV (a := (((x_280 : Nat) : Int) : Int)) (b := ((((([(upd (fun _ => 0#8) 0 (1#8)), (upd (fun _ => 0#8) 0 (2#8))] : List (Nat → BitVec 8)) ++ keys37).length : Nat) : Int) : Int)) (p := x_280 ≠ (([(upd (fun _ => 0#8) 0 (1#8)), (upd (fun _ => 0#8) 0 (2#8))] : List (Nat → BitVec 8)) ++ keys37).length) (v := true) rfl rfl rfl rfl icmp_neN (decide_eq_true hc282) ?_
                              refine Plan.pickFb rfl rfl rfl ?_
                              refine Plan.move_bool rfl rfl ?_
                              refine Plan.passed rfl ?_
                              refine Plan.passed rfl ?_
                              refine Plan.passed rfl ?_
                              refine Plan.passed rfl ?_
                              refine Plan.passed rfl ?_
                              refine Plan.pickTb rfl rfl rfl ?_
                              refine Plan.move_bool rfl rfl ?_
                              refine Plan.passed rfl ?_
                              refine Plan.passed rfl ?_
                              refine Plan.passed rfl ?_
                              refine Plan.passed rfl ?_
                              refine Plan.passed rfl ?_
                              refine Plan.passed rfl ?_
                              refine Plan.passed rfl ?_
                              refine Plan.passed rfl ?_
                              refine Plan.pickTb rfl rfl rfl ?_
                              refine Plan.nil ?_
                              have h283 := St.pickT (C := [_, _, _, _, _, _, _, _, _, _, _, _, _]) h281 [7, 9] (by decide)
                              simp only [pick, List.filterMap_cons, List.filterMap_nil, List.getElem?_cons_zero, List.getElem?_cons_succ, List.cons_append, List.nil_append] at h283
                              exact ⟨true, hR, (EnvHas.cons rfl (EnvHas.cons rfl (EnvHas.cons rfl EnvHas.nil))), h283⟩
                            ·
                              replace hR := ifF hR hc282
                              refine Plan.cmpV (a := (((x_280 : Nat) : Int) : Int)) (b := ((((([(upd (fun _ => 0#8) 0 (1#8)), (upd (fun _ => 0#8) 0 (2#8))] : List (Nat → BitVec 8)) ++ keys37).length : Nat) : Int) : Int)) (p := x_280 ≠ (([(upd (fun _ => 0#8) 0 (1#8)), (upd (fun _ => 0#8) 0 (2#8))] : List (Nat → BitVec 8)) ++ keys37).length) (v := false) rfl rfl rfl rfl icmp_neN (decide_eq_false hc282) ?_
                              refine Plan.pickFb rfl rfl rfl ?_
                              refine Plan.move_bool rfl rfl ?_
                              refine Plan.move_ptr rfl rfl ?_
                              have h284 := St.pickT (C := [_, _, _, _, _, _, _, _, _, _, _, _, _]) h281 [3, 4, 0, 1, 2, 5, 6, 7, 8, 9, 10, 11, 12] (by decide)
                              simp only [pick, List.filterMap_cons, List.filterMap_nil, List.getElem?_cons_zero, List.getElem?_cons_succ, List.cons_append, List.nil_append] at h284
                              have h285 : St B (w0.on [mapR kv2 D71 [] mw0_1_65 x_165, mapR kv2 D71 [] mw0_1_21 x_54]) _ _ := St.mpick (N := [mapR kv2 D71 [] mw0_1_21 x_54, mapR kv2 D71 [] mw0_1_65 x_165]) (N' := [mapR kv2 D71 [] mw0_1_65 x_165, mapR kv2 D71 [] mw0_1_21 x_54]) h284 [1, 0] (by decide) rfl
                              obtain ⟨x_287, hr286, hR⟩ := hR
                              refine Plan.call (vs := [.pointer (some ⟨b0_64, 0, none⟩)]) rfl FSkipsHands.call37 rfl (skips_Table_Len_ok (w0 := (w0.on [mapR kv2 D71 [] mw0_1_21 x_54])) hr286 (show St B ((w0.on [mapR kv2 D71 [] mw0_1_21 x_54]).on [mapR kv2 D71 [] mw0_1_65 x_165]) _ _ from h285)) ?_
                              rintro _ w288 ⟨rfl, h288⟩
                              replace h288 : St B (w0.on [mapR kv2 D71 [] mw0_1_65 x_165, mapR kv2 D71 [] mw0_1_21 x_54]) _ _ := h288
                              refine ⟨_, rfl, .inl ⟨PIn.keep PIn.nil h288, ?_⟩⟩
                              refine Plan.move_slice rfl rfl ?_
                              refine Plan.len FSkipsHands.isl66 rfl rfl ?_
                              by_cases hc289 : x_287 ≠ (([(upd (fun _ => 0#8) 0 (1#8)), (upd (fun _ => 0#8) 0 (2#8))] : List (Nat → BitVec 8)) ++ keys37).length
                              ·
                                replace hR := ifT hR hc289
                                refine Plan.cmpV (a := (((x_287 : Nat) : Int) : Int)) (b := ((((([(upd (fun _ => 0#8) 0 (1#8)), (upd (fun _ => 0#8) 0 (2#8))] : List (Nat → BitVec 8)) ++ keys37).length : Nat) : Int) : Int)) (p := x_287 ≠ (([(upd (fun _ => 0#8) 0 (1#8)), (upd (fun _ => 0#8) 0 (2#8))] : List (Nat → BitVec 8)) ++ keys37).length) (v := true) rfl rfl rfl rfl icmp_neN (decide_eq_true hc289) ?_
                                refine Plan.pickFb rfl rfl rfl ?_
                                refine Plan.move_bool rfl rfl ?_
                                refine Plan.passed rfl ?_
                                refine Plan.passed rfl ?_
                                refine Plan.passed rfl ?_
                                refine Plan.passed rfl ?_
                                refine Plan.passed rfl ?_
                                refine Plan.passed rfl ?_
                                refine Plan.passed rfl ?_
                                refine Plan.passed rfl ?_
                                refine Plan.pickTb rfl rfl rfl ?_
                                refine Plan.nil ?_
                                have h290 := St.pickT (C := [_, _, _, _, _, _, _, _, _, _, _, _, _]) h288 [7, 9] (by decide)
                                simp only [pick, List.filterMap_cons, List.filterMap_nil, List.getElem?_cons_zero, List.getElem?_cons_succ, List.cons_append, List.nil_append] at h290
                                have h291 : St B (w0.on [mapR kv2 D71 [] mw0_1_21 x_54, mapR kv2 D71 [] mw0_1_65 x_165]) _ _ := St.mpick (N := [mapR kv2 D71 [] mw0_1_65 x_165, mapR kv2 D71 [] mw0_1_21 x_54]) (N' := [mapR kv2 D71 [] mw0_1_21 x_54, mapR kv2 D71 [] mw0_1_65 x_165]) h290 [1, 0] (by decide) rfl
                                exact ⟨true, hR, (EnvHas.cons rfl (EnvHas.cons rfl (EnvHas.cons rfl EnvHas.nil))), h291⟩
                              ·
                                replace hR := ifF hR hc289
                                refine Plan.cmpV (a := (((x_287 : Nat) : Int) : Int)) (b := ((((([(upd (fun _ => 0#8) 0 (1#8)), (upd (fun _ => 0#8) 0 (2#8))] : List (Nat → BitVec 8)) ++ keys37).length : Nat) : Int) : Int)) (p := x_287 ≠ (([(upd (fun _ => 0#8) 0 (1#8)), (upd (fun _ => 0#8) 0 (2#8))] : List (Nat → BitVec 8)) ++ keys37).length) (v := false) rfl rfl rfl rfl icmp_neN (decide_eq_false hc289) ?_
                                refine Plan.pickFb rfl rfl rfl ?_
                                refine Plan.move_bool rfl rfl ?_
                                refine Plan.move_slice rfl rfl ?_
                                refine Plan.move_slice rfl rfl ?_
                                refine Plan.len FSkipsHands.isl78 rfl rfl ?_
                                obtain ⟨hc292, hR⟩ := hR
                                refine Plan.idxLVS (D := D81) (j := b126.length) h288 (LO.lvf D81_flat ho141 7 rfl) FSkipsHands.sl78 rfl rfl rfl hc292 ?_
                                refine Plan.loadLV (D := D81) (X := (b126 ++ ([(mark2, 999#32, (fun _ => 0#8))] : List ((BitVec 32) × (BitVec 32) × (Nat → BitVec 8))))) (j := b126.length) (sz := 34) h288 (0#32, 0#32, (fun _ => 0#8)) (LO.lvf D81_flat ho141 7 rfl) rfl rfl hc292 rfl FSkipsHands.agg81 fun b293 r293 hs293 hr293 => ?_
                                refine Plan.move_int rfl rfl ?_
                                refine Plan.buildP (ps := [(1, fun _ => VU .u32 mark2), (1, fun _ => VU .u32 (999#32)), (32, fun q => VU .u8 ((fun _ => 0#8) q))]) FSkipsHands.pl81 (by decide) FSkipsHands.z81 rfl rfl (.one [] [(1, fun _ => VU .u32 (0#32)), (32, fun q => VU .u8 ((fun _ => 0#8) q))] (fun _ => VU .u32 (0#32)) rfl rfl (.one [(1, fun _ => VU .u32 mark2)] [(32, fun q => VU .u8 ((fun _ => 0#8) q))] (fun _ => VU .u32 (0#32)) rfl rfl .nil)) ?_
                                refine Plan.neStrV' (c := ((decide (((b126 ++ ([(mark2, 999#32, (fun _ => 0#8))] : List ((BitVec 32) × (BitVec 32) × (Nat → BitVec 8)))).getD b126.length (0#32, 0#32, (fun _ => 0#8))).1 = mark2)) && ((decide (((b126 ++ ([(mark2, 999#32, (fun _ => 0#8))] : List ((BitVec 32) × (BitVec 32) × (Nat → BitVec 8)))).getD b126.length (0#32, 0#32, (fun _ => 0#8))).2.1 = 999#32)) && ((eqB 32 (((b126 ++ ([(mark2, 999#32, (fun _ => 0#8))] : List ((BitVec 32) × (BitVec 32) × (Nat → BitVec 8)))).getD b126.length (0#32, 0#32, (fun _ => 0#8))).2.2) (fun _ => 0#8)) && true)))) FSkipsHands.eqg81 rfl rfl rfl (EqV.struct (d := 9999) (l := [(73, 0), (73, 1), (71, 2)]) FSkipsHands.flds81 (.one [] [(1, fun _ => VU .u32 (((b126 ++ ([(mark2, 999#32, (fun _ => 0#8))] : List ((BitVec 32) × (BitVec 32) × (Nat → BitVec 8)))).getD b126.length (0#32, 0#32, (fun _ => 0#8))).2.1)), (32, fun q => VU .u8 ((((b126 ++ ([(mark2, 999#32, (fun _ => 0#8))] : List ((BitVec 32) × (BitVec 32) × (Nat → BitVec 8)))).getD b126.length (0#32, 0#32, (fun _ => 0#8))).2.2) q))] [] [(1, fun _ => VU .u32 (999#32)), (32, fun q => VU .u8 ((fun _ => 0#8) q))] (fun _ => VU .u32 (((b126 ++ ([(mark2, 999#32, (fun _ => 0#8))] : List ((BitVec 32) × (BitVec 32) × (Nat → BitVec 8)))).getD b126.length (0#32, 0#32, (fun _ => 0#8))).1)) (fun _ => VU .u32 mark2) rfl rfl rfl rfl FSkipsHands.sc73 rfl rfl (EqV.u (d := 9998) (a := (((b126 ++ ([(mark2, 999#32, (fun _ => 0#8))] : List ((BitVec 32) × (BitVec 32) × (Nat → BitVec 8)))).getD b126.length (0#32, 0#32, (fun _ => 0#8))).1)) (b := mark2) FSkipsHands.int73) (.one [(1, fun _ => VU .u32 (((b126 ++ ([(mark2, 999#32, (fun _ => 0#8))] : List ((BitVec 32) × (BitVec 32) × (Nat → BitVec 8)))).getD b126.length (0#32, 0#32, (fun _ => 0#8))).1))] [(32, fun q => VU .u8 ((((b126 ++ ([(mark2, 999#32, (fun _ => 0#8))] : List ((BitVec 32) × (BitVec 32) × (Nat → BitVec 8)))).getD b126.length (0#32, 0#32, (fun _ => 0#8))).2.2) q))] [(1, fun _ => VU .u32 mark2)] [(32, fun q => VU .u8 ((fun _ => 0#8) q))] (fun _ => VU .u32 (((b126 ++ ([(mark2, 999#32, (fun _ => 0#8))] : List ((BitVec 32) × (BitVec 32) × (Nat → BitVec 8)))).getD b126.length (0#32, 0#32, (fun _ => 0#8))).2.1)) (fun _ => VU .u32 (999#32)) rfl rfl rfl rfl FSkipsHands.sc73 rfl rfl (EqV.u (d := 9998) (a := (((b126 ++ ([(mark2, 999#32, (fun _ => 0#8))] : List ((BitVec 32) × (BitVec 32) × (Nat → BitVec 8)))).getD b126.length (0#32, 0#32, (fun _ => 0#8))).2.1)) (b := (999#32)) FSkipsHands.int73) (.agg [(1, fun _ => VU .u32 (((b126 ++ ([(mark2, 999#32, (fun _ => 0#8))] : List ((BitVec 32) × (BitVec 32) × (Nat → BitVec 8)))).getD b126.length (0#32, 0#32, (fun _ => 0#8))).1)), (1, fun _ => VU .u32 (((b126 ++ ([(mark2, 999#32, (fun _ => 0#8))] : List ((BitVec 32) × (BitVec 32) × (Nat → BitVec 8)))).getD b126.length (0#32, 0#32, (fun _ => 0#8))).2.1))] [(32, fun q => VU .u8 ((((b126 ++ ([(mark2, 999#32, (fun _ => 0#8))] : List ((BitVec 32) × (BitVec 32) × (Nat → BitVec 8)))).getD b126.length (0#32, 0#32, (fun _ => 0#8))).2.2) q))] [] [(1, fun _ => VU .u32 mark2), (1, fun _ => VU .u32 (999#32))] [(32, fun q => VU .u8 ((fun _ => 0#8) q))] [] rfl rfl rfl rfl FSkipsHands.agg71 FSkipsHands.agg71 (EqV.arr (d := 9997) (F := (((b126 ++ ([(mark2, 999#32, (fun _ => 0#8))] : List ((BitVec 32) × (BitVec 32) × (Nat → BitVec 8)))).getD b126.length (0#32, 0#32, (fun _ => 0#8))).2.2)) (G := (fun _ => 0#8)) FSkipsHands.arrI71) .nil)))) rfl ?_
                                refine Plan.pickFb rfl rfl rfl ?_
                                refine Plan.nil ?_
                                have h294 := St.pickT (C := [_, _, _, _, _, _, _, _, _, _, _, _, _]) h288 [7, 9] (by decide)
                                simp only [pick, List.filterMap_cons, List.filterMap_nil, List.getElem?_cons_zero, List.getElem?_cons_succ, List.cons_append, List.nil_append] at h294
                                have h295 : St B (w0.on [mapR kv2 D71 [] mw0_1_21 x_54, mapR kv2 D71 [] mw0_1_65 x_165]) _ _ := St.mpick (N := [mapR kv2 D71 [] mw0_1_65 x_165, mapR kv2 D71 [] mw0_1_21 x_54]) (N' := [mapR kv2 D71 [] mw0_1_21 x_54, mapR kv2 D71 [] mw0_1_65 x_165]) h294 [1, 0] (by decide) rfl
                                exact ⟨(!((decide (((b126 ++ ([(mark2, 999#32, (fun _ => 0#8))] : List ((BitVec 32) × (BitVec 32) × (Nat → BitVec 8)))).getD b126.length (0#32, 0#32, (fun _ => 0#8))).1 = mark2)) && ((decide (((b126 ++ ([(mark2, 999#32, (fun _ => 0#8))] : List ((BitVec 32) × (BitVec 32) × (Nat → BitVec 8)))).getD b126.length (0#32, 0#32, (fun _ => 0#8))).2.1 = 999#32)) && ((eqB 32 (((b126 ++ ([(mark2, 999#32, (fun _ => 0#8))] : List ((BitVec 32) × (BitVec 32) × (Nat → BitVec 8)))).getD b126.length (0#32, 0#32, (fun _ => 0#8))).2.2) (fun _ => 0#8)) && true)))), hR, (EnvHas.cons rfl (EnvHas.cons rfl (EnvHas.cons rfl EnvHas.nil))), h295⟩
                          ·
                            replace hR := ifF hR hc277
                            obtain rfl : x_275 = false := Bool.eq_false_iff.2 hc277
                            refine Plan.notF rfl rfl ?_
                            refine Plan.pickFb rfl rfl rfl ?_
                            refine Plan.move_bool rfl rfl ?_
                            refine Plan.passed rfl ?_
                            refine Plan.passed rfl ?_
                            refine Plan.passed rfl ?_
                            refine Plan.passed rfl ?_
                            refine Plan.passed rfl ?_
                            refine Plan.pickTb rfl rfl rfl ?_
                            refine Plan.move_bool rfl rfl ?_
                            refine Plan.passed rfl ?_
                            refine Plan.passed rfl ?_
                            refine Plan.passed rfl ?_
                            refine Plan.passed rfl ?_
                            refine Plan.passed rfl ?_
                            refine Plan.pickTb rfl rfl rfl ?_
                            refine Plan.move_bool rfl rfl ?_
                            refine Plan.passed rfl ?_
                            refine Plan.passed rfl ?_
                            refine Plan.passed rfl ?_
                            refine Plan.passed rfl ?_
                            refine Plan.passed rfl ?_
                            refine Plan.passed rfl ?_
                            refine Plan.passed rfl ?_
                            refine Plan.passed rfl ?_
                            refine Plan.pickTb rfl rfl rfl ?_
                            refine Plan.nil ?_
                            have h296 := St.pickT (C := [_, _, _, _, _, _, _, _, _, _, _, _, _]) h276 [7, 9] (by decide)
                            simp only [pick, List.filterMap_cons, List.filterMap_nil, List.getElem?_cons_zero, List.getElem?_cons_succ, List.cons_append, List.nil_append] at h296
                            exact ⟨true, hR, (EnvHas.cons rfl (EnvHas.cons rfl (EnvHas.cons rfl EnvHas.nil))), h296⟩
                        ·
                          replace hR := ifF hR hc273
                          obtain rfl : x_271 = false := Bool.eq_false_iff.2 hc273
                          refine Plan.notF rfl rfl ?_
                          refine Plan.pickFb rfl rfl rfl ?_
                          refine Plan.move_bool rfl rfl ?_
                          refine Plan.passed rfl ?_
                          refine Plan.passed rfl ?_
                          refine Plan.passed rfl ?_
                          refine Plan.passed rfl ?_
                          refine Plan.pickTb rfl rfl rfl ?_
                          refine Plan.move_bool rfl rfl ?_
                          refine Plan.passed rfl ?_
                          refine Plan.passed rfl ?_
                          refine Plan.passed rfl ?_
                          refine Plan.passed rfl ?_
                          refine Plan.passed rfl ?_
                          refine Plan.pickTb rfl rfl rfl ?_
                          refine Plan.move_bool rfl rfl ?_
                          refine Plan.passed rfl ?_
                          refine Plan.passed rfl ?_
                          refine Plan.passed rfl ?_
                          refine Plan.passed rfl ?_
                          refine Plan.passed rfl ?_
                          refine Plan.pickTb rfl rfl rfl ?_
                          refine Plan.move_bool rfl rfl ?_
                          refine Plan.passed rfl ?_
                          refine Plan.passed rfl ?_
                          refine Plan.passed rfl ?_
                          refine Plan.passed rfl ?_
                          refine Plan.passed rfl ?_
                          refine Plan.passed rfl ?_
                          refine Plan.passed rfl ?_
                          refine Plan.passed rfl ?_
                          refine Plan.pickTb rfl rfl rfl ?_
                          refine Plan.nil ?_
                          have h297 := St.pickT (C := [_, _, _, _, _, _, _, _, _, _, _, _, _]) h272 [7, 9] (by decide)
                          simp only [pick, List.filterMap_cons, List.filterMap_nil, List.getElem?_cons_zero, List.getElem?_cons_succ, List.cons_append, List.nil_append] at h297
                          exact ⟨true, hR, (EnvHas.cons rfl (EnvHas.cons rfl (EnvHas.cons rfl EnvHas.nil))), h297⟩
                  ·
                    rintro ev298 wl298 ⟨y_t264, hy298_0, he298, h298⟩
                    subst hy298_0
                    obtain ⟨ev298, rfl⟩ := he298.open
                    replace hR := hR0265
                    refine hK240 _ _ ?_; clear hK240
                    by_cases hc299 : t264 = true
                    ·
                      replace hR := ifT hR hc299
                      refine W.condT (congrArg Value.bool hc299) ?_
                      refine W.seq_k fun K300 hK300 => ?_
                      refine W.regionT [(0, true)] (by kernel_rfl) ?_
                      refine Plan.assign_bool rfl rfl ?_
                      refine Plan.nil ?_
                      refine hK300 _ _ ?_; clear hK300
                      refine W.ret (thenR_ret (finR_ret ?_))
                      have h301 := St.pickT (C := [_, _]) h298 [] (by decide)
                      simp only [pick, List.filterMap_cons, List.filterMap_nil, List.getElem?_cons_zero, List.getElem?_cons_succ, List.cons_append, List.nil_append] at h301
                      have h302 : St B w0 _ _ := St.mpick (N := [mapR kv2 D71 [] mw0_1_21 x_54, mapR kv2 D71 [] mw0_1_65 x_165]) (N' := []) h301 [] (by decide) rfl
                      subst r
                      refine RetOk.mk (.tmp_bool rfl .nil) ?_
                      exact ⟨rfl, h302⟩
                    ·
                      replace hR := ifF hR hc299
                      refine W.condF (congrArg Value.bool (Bool.eq_false_iff.2 hc299)) ?_
                      refine W.skip ?_
                      refine hK178 _ _ ?_; clear hK178
                      refine W.seq_k fun K303 hK303 => ?_
                      refine W.seq_k fun K304 hK304 => ?_
                      refine W.regionT [(0, true)] (by kernel_rfl) ?_
                      refine Plan.assign_int rfl rfl ?_
                      refine Plan.nil ?_
                      refine hK304 _ _ ?_; clear hK304
                      obtain ⟨x326, hI326, hR0326⟩ := hR
                      refine W.cutN (fun e w => x326 = some () ∧ EnvHas e [] ∧ St B (w0.on [mapR kv2 D71 [] mw0_1_21 x_54, mapR kv2 D71 [] mw0_1_65 x_165]) (L) w) ?_ ?_
                      ·
                        refine W.block ?_
                        refine W.iter hI326 (fun (s326 : Nat) e w => EnvHas e [(1, VU .u32 mark2), (9, .slice ab126 b126.length cb126), (17, VN s326)] ∧ St B (w0.on [mapR kv2 D71 [] mw0_1_21 x_54, mapR kv2 D71 [] mw0_1_65 x_165]) (⟨pb141, 0, cap141 * 34, F141, true⟩ :: r141 :: L) w) ⟨(EnvHas.cons rfl (EnvHas.cons rfl (EnvHas.cons rfl EnvHas.nil))), h298⟩ ?_
                        rintro i_325 o326 hR hx326 ev327 wl327 ⟨he327, h327⟩
                        obtain ⟨ev327, rfl⟩ := he327.open
                        unfold lethelaw15_SkipsHands_l1 at hR
                        refine W.seq_k fun K328 hK328 => ?_
                        refine W.seq_k fun K329 hK329 => ?_
                        refine W.regionT [(0, true), (1, true), (2, true), (3, true)] (by kernel_rfl) ?_
                        refine Plan.move_int rfl rfl ?_
                        refine Plan.move_slice rfl rfl ?_
                        refine Plan.len FSkipsHands.isl78 rfl rfl ?_
                        refine Plan.cmpP (a := (((i_325 : Nat) : Int) : Int)) (b := (((b126.length : Nat) : Int) : Int)) (p := i_325 < b126.length) rfl rfl rfl rfl icmp_ltN ?_
                        refine Plan.nil ?_
                        refine hK329 _ _ ?_; clear hK329
                        by_cases hc330 : i_325 < b126.length
                        ·
                          replace hR := ifT hR hc330
                          refine W.condT (congrArg Value.bool (decide_eq_true hc330)) ?_
                          refine W.skip ?_
                          refine hK328 _ _ ?_; clear hK328
                          refine W.seq_k fun K331 hK331 => ?_
                          refine W.block ?_
                          refine W.seq_k fun K332 hK332 => ?_
                          refine W.regionT [(0, true), (1, true), (2, true), (3, true), (4, true), (5, true), (6, true), (7, true), (8, true)] (by kernel_rfl) ?_
                          refine Plan.move_slice rfl rfl ?_
                          refine Plan.move_int rfl rfl ?_
                          obtain ⟨hc333, hR⟩ := hR
                          refine Plan.idxLVS (D := D81) (j := i_325) h327 (LV.two (L' := [_, _] ++ _) (j1 := 0) (j2 := 1) D81_flat hv141 hi141 rfl rfl rfl rfl) FSkipsHands.sl78 rfl rfl rfl hc333 ?_
                          refine Plan.loadLV (D := D81) (X := b126) (j := i_325) (sz := 34) h327 (0#32, 0#32, (fun _ => 0#8)) (LV.two (L' := [_, _] ++ _) (j1 := 0) (j2 := 1) D81_flat hv141 hi141 rfl rfl rfl rfl) rfl rfl hc333 rfl FSkipsHands.agg81 fun b334 r334 hs334 hr334 => ?_
                          refine Plan.move_int rfl rfl ?_
                          refine Plan.move_int rfl rfl ?_
                          refine Plan.convNU .u32 (a := i_325) FSkipsHands.u73 FSkipsHands.some3 rfl rfl ?_
                          refine Plan.buildP (ps := [(1, fun _ => VU .u32 mark2), (1, fun _ => VU .u32 (BitVec.ofNat 32 i_325)), (32, fun q => VU .u8 ((fun _ => 0#8) q))]) FSkipsHands.pl81 (by decide) FSkipsHands.z81 rfl rfl (.one [] [(1, fun _ => VU .u32 (0#32)), (32, fun q => VU .u8 ((fun _ => 0#8) q))] (fun _ => VU .u32 (0#32)) rfl rfl (.one [(1, fun _ => VU .u32 mark2)] [(32, fun q => VU .u8 ((fun _ => 0#8) q))] (fun _ => VU .u32 (0#32)) rfl rfl .nil)) ?_
                          refine Plan.neStrV' (c := ((decide ((b126.getD i_325 (0#32, 0#32, (fun _ => 0#8))).1 = mark2)) && ((decide ((b126.getD i_325 (0#32, 0#32, (fun _ => 0#8))).2.1 = (BitVec.ofNat 32 i_325))) && ((eqB 32 ((b126.getD i_325 (0#32, 0#32, (fun _ => 0#8))).2.2) (fun _ => 0#8)) && true)))) FSkipsHands.eqg81 rfl rfl rfl (EqV.struct (d := 9999) (l := [(73, 0), (73, 1), (71, 2)]) FSkipsHands.flds81 (.one [] [(1, fun _ => VU .u32 ((b126.getD i_325 (0#32, 0#32, (fun _ => 0#8))).2.1)), (32, fun q => VU .u8 (((b126.getD i_325 (0#32, 0#32, (fun _ => 0#8))).2.2) q))] [] [(1, fun _ => VU .u32 (BitVec.ofNat 32 i_325)), (32, fun q => VU .u8 ((fun _ => 0#8) q))] (fun _ => VU .u32 ((b126.getD i_325 (0#32, 0#32, (fun _ => 0#8))).1)) (fun _ => VU .u32 mark2) rfl rfl rfl rfl FSkipsHands.sc73 rfl rfl (EqV.u (d := 9998) (a := ((b126.getD i_325 (0#32, 0#32, (fun _ => 0#8))).1)) (b := mark2) FSkipsHands.int73) (.one [(1, fun _ => VU .u32 ((b126.getD i_325 (0#32, 0#32, (fun _ => 0#8))).1))] [(32, fun q => VU .u8 (((b126.getD i_325 (0#32, 0#32, (fun _ => 0#8))).2.2) q))] [(1, fun _ => VU .u32 mark2)] [(32, fun q => VU .u8 ((fun _ => 0#8) q))] (fun _ => VU .u32 ((b126.getD i_325 (0#32, 0#32, (fun _ => 0#8))).2.1)) (fun _ => VU .u32 (BitVec.ofNat 32 i_325)) rfl rfl rfl rfl FSkipsHands.sc73 rfl rfl (EqV.u (d := 9998) (a := ((b126.getD i_325 (0#32, 0#32, (fun _ => 0#8))).2.1)) (b := (BitVec.ofNat 32 i_325)) FSkipsHands.int73) (.agg [(1, fun _ => VU .u32 ((b126.getD i_325 (0#32, 0#32, (fun _ => 0#8))).1)), (1, fun _ => VU .u32 ((b126.getD i_325 (0#32, 0#32, (fun _ => 0#8))).2.1))] [(32, fun q => VU .u8 (((b126.getD i_325 (0#32, 0#32, (fun _ => 0#8))).2.2) q))] [] [(1, fun _ => VU .u32 mark2), (1, fun _ => VU .u32 (BitVec.ofNat 32 i_325))] [(32, fun q => VU .u8 ((fun _ => 0#8) q))] [] rfl rfl rfl rfl FSkipsHands.agg71 FSkipsHands.agg71 (EqV.arr (d := 9997) (F := ((b126.getD i_325 (0#32, 0#32, (fun _ => 0#8))).2.2)) (G := (fun _ => 0#8)) FSkipsHands.arrI71) .nil)))) rfl ?_
                          refine Plan.nil ?_
                          refine hK332 _ _ ?_; clear hK332
                          by_cases hc335 : ((decide ((b126.getD i_325 (0#32, 0#32, (fun _ => 0#8))).1 = mark2)) && ((decide ((b126.getD i_325 (0#32, 0#32, (fun _ => 0#8))).2.1 = (BitVec.ofNat 32 i_325))) && ((eqB 32 ((b126.getD i_325 (0#32, 0#32, (fun _ => 0#8))).2.2) (fun _ => 0#8)) && true))) = true
                          ·
                            replace hR := ifT hR hc335
                            refine W.condF (congrArg Value.bool (congrArg Bool.not hc335)) ?_
                            refine W.skip ?_
                            refine blockR_norm ?_
                            refine hK331 _ _ ?_; clear hK331
                            refine W.regionT [(0, true), (1, true), (2, true)] (by kernel_rfl) ?_
                            refine Plan.move_int rfl rfl ?_
                            obtain ⟨hc336, hR⟩ := hR
                            refine Plan.addN (a := i_325) (b := 1) rfl rfl rfl (by omega) ?_
                            refine Plan.assign_int rfl rfl ?_
                            refine Plan.nil ?_
                            exact iterR_norm ⟨_, hR, (EnvHas.cons rfl (EnvHas.cons rfl (EnvHas.cons rfl EnvHas.nil))), h327⟩
                          ·
                            replace hR := ifF hR hc335
                            refine W.condT (congrArg Value.bool (congrArg Bool.not (Bool.eq_false_iff.2 hc335))) ?_
                            refine W.seq_k fun K337 hK337 => ?_
                            refine W.regionT [(0, true)] (by kernel_rfl) ?_
                            refine Plan.assign_bool rfl rfl ?_
                            refine Plan.nil ?_
                            refine hK337 _ _ ?_; clear hK337
                            refine W.ret (blockR_ret (thenR_ret (iterR_ret (blockR_ret (thenR_ret (thenR_ret (finR_ret ?_)))))))
                            have h338 := St.pickT (C := [_, _]) h327 [] (by decide)
                            simp only [pick, List.filterMap_cons, List.filterMap_nil, List.getElem?_cons_zero, List.getElem?_cons_succ, List.cons_append, List.nil_append] at h338
                            have h339 : St B w0 _ _ := St.mpick (N := [mapR kv2 D71 [] mw0_1_21 x_54, mapR kv2 D71 [] mw0_1_65 x_165]) (N' := []) h338 [] (by decide) rfl
                            replace hR := hR.2
                            subst r
                            refine RetOk.mk (.tmp_bool rfl .nil) ?_
                            exact ⟨rfl, h339⟩
                        ·
                          replace hR := ifF hR hc330
                          refine W.condF (congrArg Value.bool (decide_eq_false hc330)) ?_
                          refine W.exit (thenR_exit (iterR_exit (blockR_here ?_)))
                          have h340 := St.pickT (C := [_, _]) h327 [] (by decide)
                          simp only [pick, List.filterMap_cons, List.filterMap_nil, List.getElem?_cons_zero, List.getElem?_cons_succ, List.cons_append, List.nil_append] at h340
                          exact ⟨(hx326 _ hR).symm, EnvHas.nil, h340⟩
                      ·
                        rintro ev341 wl341 ⟨hy341, he341, h341⟩
                        obtain ⟨ev341, rfl⟩ := he341.open
                        replace hR := hR0326  hy341
                        refine hK303 _ _ ?_; clear hK303
                        refine W.seq_k fun K342 hK342 => ?_
                        refine W.regionT [(0, true)] (by kernel_rfl) ?_
                        refine Plan.assign_bool rfl rfl ?_
                        refine Plan.nil ?_
                        refine hK342 _ _ ?_; clear hK342
                        refine W.ret (finR_ret ?_)
                        have h343 : St B w0 _ _ := St.mpick (N := [mapR kv2 D71 [] mw0_1_21 x_54, mapR kv2 D71 [] mw0_1_65 x_165]) (N' := []) h341 [] (by decide) rfl
                        subst r
                        refine RetOk.mk (.tmp_bool rfl .nil) ?_
                        exact ⟨rfl, h343⟩
                ·
                  replace hR := ifF hR hc148
                  refine W.condT (congrArg Value.bool (congrArg Bool.not (Bool.eq_false_iff.2 hc148))) ?_
                  refine W.seq_k fun K344 hK344 => ?_
                  refine W.regionT [(0, true)] (by kernel_rfl) ?_
                  refine Plan.assign_bool rfl rfl ?_
                  refine Plan.nil ?_
                  refine hK344 _ _ ?_; clear hK344
                  refine W.ret (thenR_ret (finR_ret ?_))
                  have h345 := St.pickT (C := [_, _, _, _, _, _, _, _, _, _]) h147 [] (by decide)
                  simp only [pick, List.filterMap_cons, List.filterMap_nil, List.getElem?_cons_zero, List.getElem?_cons_succ, List.cons_append, List.nil_append] at h345
                  have h346 : St B w0 _ _ := St.mpick (N := [mapR kv2 D71 [] mw0_1_21 x_54, mapR kv2 D71 [] mw0_1_65 x_63]) (N' := []) h345 [] (by decide) rfl
                  subst r
                  refine RetOk.mk (.tmp_bool rfl .nil) ?_
                  exact ⟨rfl, h346⟩

end Go.Proofs.Ytbkgblhmlenocaa
