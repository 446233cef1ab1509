/-
  WALKS of the package's functions, printed by this session's own program (auto.py).
-/
import Derived.Test.YtbkgblhmlenocaaProg
import Derived.Test.YtbkgblhmlenocaaEd
import Derived.Test.YtbkgblhmlenocaaRSkipsOnce
import Derived.Test.YtbkgblhmlenocaaEls
import Derived.Test.YtbkgblhmlenocaaWSkips
namespace Go.Proofs.Ytbkgblhmlenocaa
set_option linter.unusedSimpArgs false
set_option linter.unusedVariables false
set_option linter.unusedSectionVars false
open Go Go.LW
theorem FSkipsOnce.call35 : callB Try.prog 35 = true := by kernel_rfl
theorem FSkipsOnce.ptr67 : ptrB Try.prog 67 = true := by kernel_rfl
theorem FSkipsOnce.isl66 : ∃ el, Try.prog.underlying 66 = some (.slice el) := ⟨71, by kernel_rfl⟩
theorem FSkipsOnce.sl66 : slB Try.prog 66 32 = true := by kernel_rfl
theorem FSkipsOnce.arr71 : arrB Try.prog 71 32 1 = true := by kernel_rfl
theorem FSkipsOnce.z71 : zeroIs Try.prog 71 [(32, fun _ => VU .u8 0#8)] := zeroIs_agg (by kernel_rfl)
theorem FSkipsOnce.zv71 : (Try.prog.info? 71).bind (·.zero) = some (AG [(32, fun _ => VU .u8 0#8)]) := by kernel_rfl
theorem FSkipsOnce.slu66 : Try.prog.underlying 66 = some (.slice 71) := by kernel_rfl
theorem FSkipsOnce.sz71 : szT Try.prog 71 32 = true := by kernel_rfl
theorem FSkipsOnce.el66 : elD Try.prog 66 = some (32, 32, some (AG [(32, fun _ => VU .u8 0#8)])) := by kernel_rfl
theorem FSkipsOnce.some3 : (Try.prog.underlying 3).isSome = true := by kernel_rfl
theorem FSkipsOnce.u73 : Try.prog.underlying 73 = some (.int .u32) := by kernel_rfl
theorem FSkipsOnce.mixed : Try.prog.follows .mixedOrders = true := by kernel_rfl
theorem FSkipsOnce.sc3 : scalarT Try.prog 3 = true := by kernel_rfl
theorem FSkipsOnce.agg71 : aggT Try.prog 71 32 = true := by kernel_rfl
theorem FSkipsOnce.call36 : callB Try.prog 36 = true := by kernel_rfl
theorem FSkipsOnce.sc73 : scalarT Try.prog 73 = true := by kernel_rfl
theorem FSkipsOnce.pl81 : placesB Try.prog 81 [(0, 1), (1, 1), (2, 32)] = true := by kernel_rfl
theorem FSkipsOnce.z81 : zeroIs Try.prog 81 [(1, fun _ => VU .u32 0#32), (1, fun _ => VU .u32 0#32), (32, fun _ => VU .u8 0#8)] := zeroIs_agg (by kernel_rfl)
theorem FSkipsOnce.isl43 : ∃ el, Try.prog.underlying 43 = some (.slice el) := ⟨3, by kernel_rfl⟩
theorem FSkipsOnce.sl43 : slB Try.prog 43 1 = true := by kernel_rfl
theorem FSkipsOnce.call40 : callB Try.prog 40 = true := by kernel_rfl
theorem FSkipsOnce.isl78 : ∃ el, Try.prog.underlying 78 = some (.slice el) := ⟨81, by kernel_rfl⟩
theorem FSkipsOnce.sl78 : slB Try.prog 78 34 = true := by kernel_rfl
theorem FSkipsOnce.agg81 : aggT Try.prog 81 34 = true := by kernel_rfl
theorem FSkipsOnce.int73 : intT Try.prog 73 .u32 = true := by kernel_rfl
theorem FSkipsOnce.arrI71 : arrIB Try.prog 71 32 .u8 = true := by kernel_rfl
theorem FSkipsOnce.flds81 : fieldsB Try.prog 81 [(73, 0), (73, 1), (71, 2)] = true := by kernel_rfl
theorem FSkipsOnce.eqg81 : Try.prog.eqGuardType Try.prog.depth 81 = false := by kernel_rfl
theorem FSkipsOnce.row71 : rowB Try.prog 71 = true := by kernel_rfl
theorem FSkipsOnce.call38 : callB Try.prog 38 = true := by kernel_rfl
theorem FSkipsOnce.call39 : callB Try.prog 39 = true := by kernel_rfl
theorem FSkipsOnce.call37 : callB Try.prog 37 = true := by kernel_rfl
theorem FSkipsOnce.el75 : elD Try.prog 75 = some (1, 1, some (.bool false)) := by kernel_rfl
theorem FSkipsOnce.sl75 : slB Try.prog 75 1 = true := by kernel_rfl
theorem FSkipsOnce.sz4 : szT Try.prog 4 1 = true := by kernel_rfl
theorem FSkipsOnce.sc4 : scalarT Try.prog 4 = true := by kernel_rfl

set_option maxRecDepth 8000 in
set_option maxHeartbeats 1000000 in
theorem lethelaw15_SkipsOnce_ok {B : Nat} {w0 : Base} {w : World} {L : List Rg} {keys1 : List (Nat → BitVec 8)} {akeys1 : Option Addr} {nkeys1 ckeys1 ikeys1 : Nat} (hkeys1 : LV D71 L ikeys1 akeys1 nkeys1 ckeys1 keys1) {take2 : List Int} {atake2 : Option Addr} {ntake2 ctake2 itake2 : Nat} (htake2 : LV D3 L itake2 atake2 ntake2 ctake2 take2) {r : Bool} (hR : lethelaw15_SkipsOnce keys1 take2 r) (HST : St B w0 (L) w) :
    Calls Try.prog 8 #[.slice akeys1 nkeys1 ckeys1, .slice atake2 ntake2 ctake2] w fun e w' => e = .returned (.bool r) ∧ St B w0 (L) w' := by
  refine W.enter 227 Try.func8 rfl rfl rfl ?_
  unfold lethelaw15_SkipsOnce at hR
  have ekeys1 := hkeys1.hl; subst ekeys1
  have etake2 := htake2.hl; subst etake2
  refine W.seq_k fun K3 hK3 => ?_
  refine W.regionT [(0, true)] (by kernel_rfl) ?_
  refine Plan.assign_bool rfl rfl ?_
  refine Plan.nil ?_
  refine hK3 _ _ ?_; clear hK3
  refine W.seq_k fun K4 hK4 => ?_
  refine W.regionT [(0, false), (1, true), (2, true), (3, true), (4, true), (5, true)] (by kernel_rfl) ?_
  rcases hR with ⟨x_6, hr5, hR⟩ | ⟨x_7, x_8, x_9, hr5, hR⟩
  ·
    refine Plan.call (vs := [VN 64]) rfl FSkipsOnce.call35 rfl (skips_New_ok  hr5 HST) ?_
    rintro _ w10 ⟨rfl, h10⟩
    refine ⟨_, rfl, .inl ⟨PIn.keep PIn.nil h10, ?_⟩⟩
    refine Plan.move_tuple rfl rfl ?_
    refine Plan.extract_ptr rfl rfl rfl ?_
    refine Plan.extract_int rfl rfl rfl ?_
    refine Plan.assign_ptr rfl rfl ?_
    refine Plan.assign_int rfl rfl ?_
    refine Plan.nil ?_
    refine hK4 _ _ ?_; clear hK4
    refine W.seq_k fun K11 hK11 => ?_
    refine W.seq_k fun K16 hK16 => ?_
    refine W.regionT [(0, true), (1, true), (2, true), (3, true), (4, true), (5, true)] (by kernel_rfl) ?_
    refine Plan.move_int rfl rfl ?_
    by_cases hc17 : x_6 ≠ 0
    ·
      replace hR := ifT hR hc17
      refine Plan.cmpV (a := (((x_6 : Nat) : Int) : Int)) (b := (0 : Int)) (p := x_6 ≠ 0) (v := true) rfl rfl rfl rfl icmp_neN (decide_eq_true hc17) ?_
      refine Plan.move_bool rfl rfl ?_
      refine Plan.passed rfl ?_
      refine Plan.passed rfl ?_
      refine Plan.pickTb rfl rfl rfl ?_
      refine Plan.nil ?_
      refine hK16 _ _ ?_; clear hK16
      refine W.condT rfl ?_
      refine W.seq_k fun K18 hK18 => ?_
      refine W.regionT [(0, true)] (by kernel_rfl) ?_
      refine Plan.assign_bool rfl rfl ?_
      refine Plan.nil ?_
      refine hK18 _ _ ?_; clear hK18
      refine W.ret (thenR_ret (finR_ret ?_))
      subst r
      refine RetOk.mk (.tmp_bool rfl .nil) ?_
      exact ⟨rfl, h10⟩
    ·
      replace hR := ifF hR hc17
      refine Plan.cmpV (a := (((x_6 : Nat) : Int) : Int)) (b := (0 : Int)) (p := x_6 ≠ 0) (v := false) rfl rfl rfl rfl icmp_neN (decide_eq_false hc17) ?_
      refine Plan.move_bool rfl rfl ?_
      refine Plan.move_ptr rfl rfl ?_
      refine Plan.eqNil (b := true) FSkipsOnce.ptr67 rfl rfl rfl rfl ?_
      refine Plan.pickFb rfl rfl rfl ?_
      refine Plan.nil ?_
      refine hK16 _ _ ?_; clear hK16
      refine W.condT rfl ?_
      refine W.seq_k fun K19 hK19 => ?_
      refine W.regionT [(0, true)] (by kernel_rfl) ?_
      refine Plan.assign_bool rfl rfl ?_
      refine Plan.nil ?_
      refine hK19 _ _ ?_; clear hK19
      refine W.ret (thenR_ret (finR_ret ?_))
      subst r
      refine RetOk.mk (.tmp_bool rfl .nil) ?_
      exact ⟨rfl, h10⟩
  ·
    refine Plan.call (vs := [VN 64]) rfl FSkipsOnce.call35 rfl (skips_New_ok (w0 := w0) hr5 HST) ?_
    rintro _ w22 ⟨b0_20, mw0_1_21, rfl, h22⟩
    replace h22 : St B (w0.on [mapR kv2 D71 [] mw0_1_21 x_8]) _ _ := h22
    refine ⟨_, rfl, .inl ⟨PIn.keep PIn.nil h22, ?_⟩⟩
    refine Plan.move_tuple rfl rfl ?_
    refine Plan.extract_ptr rfl rfl rfl ?_
    refine Plan.extract_int rfl rfl rfl ?_
    refine Plan.assign_ptr rfl rfl ?_
    refine Plan.assign_int rfl rfl ?_
    refine Plan.nil ?_
    refine hK4 _ _ ?_; clear hK4
    refine W.seq_k fun K23 hK23 => ?_
    refine W.seq_k fun K27 hK27 => ?_
    refine W.regionT [(0, true), (1, true), (2, true), (3, true), (4, true), (5, true)] (by kernel_rfl) ?_
    refine Plan.move_int rfl rfl ?_
    by_cases hc28 : x_9 ≠ 0
    ·
      replace hR := ifT hR hc28
      refine Plan.cmpV (a := (((x_9 : Nat) : Int) : Int)) (b := (0 : Int)) (p := x_9 ≠ 0) (v := true) rfl rfl rfl rfl icmp_neN (decide_eq_true hc28) ?_
      refine Plan.move_bool rfl rfl ?_
      refine Plan.passed rfl ?_
      refine Plan.passed rfl ?_
      refine Plan.pickTb rfl rfl rfl ?_
      refine Plan.nil ?_
      refine hK27 _ _ ?_; clear hK27
      refine W.condT rfl ?_
      refine W.seq_k fun K29 hK29 => ?_
      refine W.regionT [(0, true)] (by kernel_rfl) ?_
      refine Plan.assign_bool rfl rfl ?_
      refine Plan.nil ?_
      refine hK29 _ _ ?_; clear hK29
      refine W.ret (thenR_ret (finR_ret ?_))
      have h30 := St.pickT (C := [_, _]) h22 [] (by decide)
      simp only [pick, List.filterMap_cons, List.filterMap_nil, List.getElem?_cons_zero, List.getElem?_cons_succ, List.cons_append, List.nil_append] at h30
      have h31 : St B w0 _ _ := St.mpick (N := [mapR kv2 D71 [] mw0_1_21 x_8]) (N' := []) h30 [] (by decide) rfl
      subst r
      refine RetOk.mk (.tmp_bool rfl .nil) ?_
      exact ⟨rfl, h31⟩
    ·
      replace hR := ifF hR hc28
      refine Plan.cmpV (a := (((x_9 : Nat) : Int) : Int)) (b := (0 : Int)) (p := x_9 ≠ 0) (v := false) rfl rfl rfl rfl icmp_neN (decide_eq_false hc28) ?_
      refine Plan.move_bool rfl rfl ?_
      refine Plan.move_ptr rfl rfl ?_
      refine Plan.eqNil (b := false) FSkipsOnce.ptr67 rfl rfl rfl rfl ?_
      refine Plan.pickFb rfl rfl rfl ?_
      refine Plan.nil ?_
      refine hK27 _ _ ?_; clear hK27
      refine W.condF rfl ?_
      refine W.skip ?_
      refine hK23 _ _ ?_; clear hK23
      refine W.seq_k fun K32 hK32 => ?_
      obtain ⟨keys37, hX38, hR038⟩ := hR
      refine W.cutN (fun e w => ∃ y_keys37 : List (Nat → BitVec 8), (keys37 = y_keys37) ∧ ∃ ikeys37 : Nat, ∃ akeys37 : Option Addr, ∃ ckeys37 : Nat, EnvHas e [(0, .slice akeys37 y_keys37.length ckeys37), (1, .slice atake2 take2.length ctake2), (5, .pointer (some ⟨b0_20, 0, none⟩))] ∧ St B (w0.on [mapR kv2 D71 [] mw0_1_21 x_8]) (⟨some b0_20, 0, 1, fun _ => .int .i64 x_7, true⟩ :: ⟨some b0_20, 1, 1, fun _ => .map (some mw0_1_21), true⟩ :: L) w ∧ LV D71 L ikeys37 akeys37 y_keys37.length ckeys37 y_keys37) ?_ ?_
      ·
        replace hR := hX38
        refine W.seq_k fun K39 hK39 => ?_
        refine W.regionT [(0, true), (1, true), (2, true)] (by kernel_rfl) ?_
        refine Plan.move_slice rfl rfl ?_
        refine Plan.len FSkipsOnce.isl66 rfl rfl ?_
        refine Plan.cmpP (a := (((keys1.length : Nat) : Int) : Int)) (b := (30 : Int)) (p := 30 < keys1.length) rfl rfl rfl rfl icmp_gtN ?_
        refine Plan.nil ?_
        refine hK39 _ _ ?_; clear hK39
        by_cases hc40 : 30 < keys1.length
        ·
          replace hR := ifT hR hc40
          refine W.condT (congrArg Value.bool (decide_eq_true hc40)) ?_
          refine W.regionT [(0, true), (1, true), (2, true)] (by kernel_rfl) ?_
          refine Plan.move_slice rfl rfl ?_
          obtain ⟨hc41, hR⟩ := hR
          refine Plan.slLV (D := D71) (sz := 32) (lo := 0) (hi := 30) hkeys1 rfl FSkipsOnce.sl66 rfl rfl rfl ⟨_, rfl⟩ hc41 fun a42 c42 hv42 => ?_
          refine Plan.assign_slice rfl rfl ?_
          refine Plan.nil ?_
          exact ⟨(sgl keys1 0 30), hR, ikeys1, a42, c42, (EnvHas.cons rfl (EnvHas.cons rfl (EnvHas.cons rfl EnvHas.nil))), h22, hv42⟩
        ·
          replace hR := ifF hR hc40
          refine W.condF (congrArg Value.bool (decide_eq_false hc40)) ?_
          refine W.skip ?_
          exact ⟨keys1, hR, ikeys1, akeys1, ckeys1, (EnvHas.cons rfl (EnvHas.cons rfl (EnvHas.cons rfl EnvHas.nil))), h22, hkeys1⟩
      ·
        rintro ev43 wl43 ⟨y_keys37, hy43_0, ikeys37, akeys37, ckeys37, he43, h43, hkeys37⟩
        subst hy43_0
        obtain ⟨ev43, rfl⟩ := he43.open
        replace hR := hR038
        refine hK32 _ _ ?_; clear hK32
        refine W.seq_k fun K44 hK44 => ?_
        refine W.regionT [(0, true), (1, false), (2, true), (3, false), (4, true)] (by kernel_rfl) ?_
        refine Plan.buildArr (ps := [(32, fun q => VU .u8 ((upd (fun _ => 0#8) 0 (1#8)) q))]) FSkipsOnce.arr71 FSkipsOnce.z71 rfl rfl (by kernel_rfl) ?_
        refine Plan.buildLO (D := D71) (sz := 32) h43 [((), (upd (fun _ => 0#8) 0 (1#8)))] FSkipsOnce.slu66 FSkipsOnce.sz71 FSkipsOnce.zv71 (by decide) (by decide) rfl rfl rfl rfl (fun _ _ => trivial) (EffO.keep PIn.nil) fun b46 w46 F46 hb46 ho46 h46 => ?_
        replace ho46 : LO D71 [] (some ⟨b46, 0, none⟩) (some b46) ([(upd (fun _ => 0#8) 0 (1#8))] : List (Nat → BitVec 8)).length 1 F46 ([(upd (fun _ => 0#8) 0 (1#8))] : List (Nat → BitVec 8)) := ho46.re (fun _ _ h => h)
        refine Plan.move_slice rfl rfl ?_
        obtain ⟨hc48, hR⟩ := hR
        refine Plan.appendLO (D := D71) (X := ([(upd (fun _ => 0#8) 0 (1#8))] : List (Nat → BitVec 8))) (Y := keys37) (sz := 32) h46 () (fun _ => 0#8) 0 ho46 rfl FSkipsOnce.el66 rfl FSkipsOnce.slu66 rfl rfl rfl rfl (hkeys37.app [_, _, _]) (fun _ _ h => h) hc48.1 hc48.2 (fun _ => EffO.keep PIn.nil) fun a47 pb47 cap47 F47 w47 ho47 h47 => ?_
        simp only [List.cons_append, List.nil_append, List.set_cons_zero, List.set_cons_succ] at h47
        replace ho47 : LO D71 [] a47 pb47 (([(upd (fun _ => 0#8) 0 (1#8))] : List (Nat → BitVec 8)) ++ keys37).length cap47 F47 (([(upd (fun _ => 0#8) 0 (1#8))] : List (Nat → BitVec 8)) ++ keys37) := ho47.re (fun _ _ h => h)
        refine Plan.assign_slice rfl rfl ?_
        refine Plan.nil ?_
        refine hK44 _ _ ?_; clear hK44
        refine W.seq_k fun K49 hK49 => ?_
        refine W.seq_k fun K70 hK70 => ?_
        refine W.regionT [(0, true), (1, true), (2, false), (3, true), (4, true), (5, true), (6, true), (7, false), (8, true), (9, true), (10, true), (11, true), (12, false), (13, true), (14, true), (15, true), (16, true), (17, true)] (by kernel_rfl) ?_
        refine Plan.move_ptr rfl rfl ?_
        refine Plan.move_slice rfl rfl ?_
        have h71 := St.pickT (C := [_, _, _]) h47 [1, 2, 0] (by decide)
        simp only [pick, List.filterMap_cons, List.filterMap_nil, List.getElem?_cons_zero, List.getElem?_cons_succ, List.cons_append, List.nil_append] at h71
        obtain ⟨x_73, x_74, hr72, hR⟩ := hR
        refine Plan.call (vs := [.pointer (some ⟨b0_20, 0, none⟩), VU .u32 (3#32), VU .u32 (7#32), .slice a47 ((([(upd (fun _ => 0#8) 0 (1#8))] : List (Nat → BitVec 8)) ++ keys37).length) cap47]) rfl FSkipsOnce.call36 rfl (skips_Table_Add_ok (w0 := w0) (by exact (LO.lvf D71_flat ho47 0 rfl)) hr72 (show St B (w0.on [mapR kv2 D71 [] mw0_1_21 x_8]) _ _ from h71)) ?_
        rintro _ w75 ⟨rfl, h75⟩
        replace h75 : St B (w0.on [mapR kv2 D71 [] mw0_1_21 x_74]) _ _ := h75
        refine ⟨_, rfl, .inl ⟨PIn.keep PIn.nil h75, ?_⟩⟩
        by_cases hc76 : x_73 ≠ 0
        ·
          replace hR := ifT hR hc76
          refine Plan.cmpV (a := (((x_73 : Nat) : Int) : Int)) (b := (0 : Int)) (p := x_73 ≠ 0) (v := true) rfl rfl rfl rfl icmp_neN (decide_eq_true hc76) ?_
          refine Plan.move_bool rfl rfl ?_
          refine Plan.passed rfl ?_
          refine Plan.passed rfl ?_
          refine Plan.passed rfl ?_
          refine Plan.passed rfl ?_
          refine Plan.pickTb rfl rfl rfl ?_
          refine Plan.move_bool rfl rfl ?_
          refine Plan.passed rfl ?_
          refine Plan.passed rfl ?_
          refine Plan.passed rfl ?_
          refine Plan.passed rfl ?_
          refine Plan.passed rfl ?_
          refine Plan.passed rfl ?_
          refine Plan.pickTb rfl rfl rfl ?_
          refine Plan.nil ?_
          refine hK70 _ _ ?_; clear hK70
          refine W.condT rfl ?_
          refine W.seq_k fun K77 hK77 => ?_
          refine W.regionT [(0, true)] (by kernel_rfl) ?_
          refine Plan.assign_bool rfl rfl ?_
          refine Plan.nil ?_
          refine hK77 _ _ ?_; clear hK77
          refine W.ret (thenR_ret (finR_ret ?_))
          have h78 := St.pickT (C := [_, _, _]) h75 [] (by decide)
          simp only [pick, List.filterMap_cons, List.filterMap_nil, List.getElem?_cons_zero, List.getElem?_cons_succ, List.cons_append, List.nil_append] at h78
          have h79 : St B w0 _ _ := St.mpick (N := [mapR kv2 D71 [] mw0_1_21 x_74]) (N' := []) h78 [] (by decide) rfl
          subst r
          refine RetOk.mk (.tmp_bool rfl .nil) ?_
          exact ⟨rfl, h79⟩
        ·
          replace hR := ifF hR hc76
          refine Plan.cmpV (a := (((x_73 : Nat) : Int) : Int)) (b := (0 : Int)) (p := x_73 ≠ 0) (v := false) rfl rfl rfl rfl icmp_neN (decide_eq_false hc76) ?_
          refine Plan.move_bool rfl rfl ?_
          refine Plan.move_ptr rfl rfl ?_
          refine Plan.move_slice rfl rfl ?_
          obtain ⟨x_81, x_82, hr80, hR⟩ := hR
          refine Plan.call (vs := [.pointer (some ⟨b0_20, 0, none⟩), VU .u32 (2#32), VU .u32 (9#32), .slice a47 ((([(upd (fun _ => 0#8) 0 (1#8))] : List (Nat → BitVec 8)) ++ keys37).length) cap47]) rfl FSkipsOnce.call36 rfl (skips_Table_Add_ok (w0 := w0) (by exact (LO.lvf D71_flat ho47 0 rfl)) hr80 (show St B (w0.on [mapR kv2 D71 [] mw0_1_21 x_74]) _ _ from h75)) ?_
          rintro _ w83 ⟨rfl, h83⟩
          replace h83 : St B (w0.on [mapR kv2 D71 [] mw0_1_21 x_82]) _ _ := h83
          refine ⟨_, rfl, .inl ⟨PIn.keep PIn.nil h83, ?_⟩⟩
          by_cases hc84 : x_81 ≠ 0
          ·
            replace hR := ifT hR hc84
            refine Plan.cmpV (a := (((x_81 : Nat) : Int) : Int)) (b := (0 : Int)) (p := x_81 ≠ 0) (v := true) rfl rfl rfl rfl icmp_neN (decide_eq_true hc84) ?_
            refine Plan.pickFb rfl rfl rfl ?_
            refine Plan.move_bool rfl rfl ?_
            refine Plan.passed rfl ?_
            refine Plan.passed rfl ?_
            refine Plan.passed rfl ?_
            refine Plan.passed rfl ?_
            refine Plan.passed rfl ?_
            refine Plan.passed rfl ?_
            refine Plan.pickTb rfl rfl rfl ?_
            refine Plan.nil ?_
            refine hK70 _ _ ?_; clear hK70
            refine W.condT rfl ?_
            refine W.seq_k fun K85 hK85 => ?_
            refine W.regionT [(0, true)] (by kernel_rfl) ?_
            refine Plan.assign_bool rfl rfl ?_
            refine Plan.nil ?_
            refine hK85 _ _ ?_; clear hK85
            refine W.ret (thenR_ret (finR_ret ?_))
            have h86 := St.pickT (C := [_, _, _]) h83 [] (by decide)
            simp only [pick, List.filterMap_cons, List.filterMap_nil, List.getElem?_cons_zero, List.getElem?_cons_succ, List.cons_append, List.nil_append] at h86
            have h87 : St B w0 _ _ := St.mpick (N := [mapR kv2 D71 [] mw0_1_21 x_82]) (N' := []) h86 [] (by decide) rfl
            subst r
            refine RetOk.mk (.tmp_bool rfl .nil) ?_
            exact ⟨rfl, h87⟩
          ·
            replace hR := ifF hR hc84
            refine Plan.cmpV (a := (((x_81 : Nat) : Int) : Int)) (b := (0 : Int)) (p := x_81 ≠ 0) (v := false) rfl rfl rfl rfl icmp_neN (decide_eq_false hc84) ?_
            refine Plan.pickFb rfl rfl rfl ?_
            refine Plan.move_bool rfl rfl ?_
            refine Plan.move_ptr rfl rfl ?_
            obtain ⟨x_89, hr88, hR⟩ := hR
            refine Plan.call (vs := [.pointer (some ⟨b0_20, 0, none⟩)]) rfl FSkipsOnce.call37 rfl (skips_Table_Len_ok (w0 := w0) hr88 (show St B (w0.on [mapR kv2 D71 [] mw0_1_21 x_82]) _ _ from h83)) ?_
            rintro _ w90 ⟨rfl, h90⟩
            replace h90 : St B (w0.on [mapR kv2 D71 [] mw0_1_21 x_82]) _ _ := h90
            refine ⟨_, rfl, .inl ⟨PIn.keep PIn.nil h90, ?_⟩⟩
            refine Plan.move_slice rfl rfl ?_
            refine Plan.len FSkipsOnce.isl66 rfl rfl ?_
            obtain ⟨hc91, hR⟩ := hR
            refine Plan.mulN (a := 2) (b := (([(upd (fun _ => 0#8) 0 (1#8))] : List (Nat → BitVec 8)) ++ keys37).length) rfl rfl rfl (by omega) ?_
            refine Plan.cmpP (a := (((x_89 : Nat) : Int) : Int)) (b := ((((2 * ((([(upd (fun _ => 0#8) 0 (1#8))] : List (Nat → BitVec 8)) ++ keys37).length)) : Nat) : Int) : Int)) (p := x_89 ≠ (2 * ((([(upd (fun _ => 0#8) 0 (1#8))] : List (Nat → BitVec 8)) ++ keys37).length))) rfl rfl rfl rfl icmp_neN ?_
            refine Plan.pickFb rfl rfl rfl ?_
            refine Plan.nil ?_
            refine hK70 _ _ ?_; clear hK70
            by_cases hc92 : x_89 ≠ (2 * ((([(upd (fun _ => 0#8) 0 (1#8))] : List (Nat → BitVec 8)) ++ keys37).length))
            ·
              replace hR := ifT hR hc92
              refine W.condT (congrArg Value.bool (decide_eq_true hc92)) ?_
              refine W.seq_k fun K93 hK93 => ?_
              refine W.regionT [(0, true)] (by kernel_rfl) ?_
              refine Plan.assign_bool rfl rfl ?_
              refine Plan.nil ?_
              refine hK93 _ _ ?_; clear hK93
              refine W.ret (thenR_ret (finR_ret ?_))
              have h94 := St.pickT (C := [_, _, _]) h90 [] (by decide)
              simp only [pick, List.filterMap_cons, List.filterMap_nil, List.getElem?_cons_zero, List.getElem?_cons_succ, List.cons_append, List.nil_append] at h94
              have h95 : St B w0 _ _ := St.mpick (N := [mapR kv2 D71 [] mw0_1_21 x_82]) (N' := []) h94 [] (by decide) rfl
              subst r
              refine RetOk.mk (.tmp_bool rfl .nil) ?_
              exact ⟨rfl, h95⟩
            ·
              replace hR := ifF hR hc92
              refine W.condF (congrArg Value.bool (decide_eq_false hc92)) ?_
              refine W.skip ?_
              refine hK49 _ _ ?_; clear hK49
              refine W.seq_k fun K96 hK96 => ?_
              refine W.seq_k fun K116 hK116 => ?_
              refine W.regionT [(0, true), (1, true), (2, false), (3, false), (4, true), (5, true), (6, true), (7, true), (8, true), (9, false), (10, false), (11, true), (12, true)] (by kernel_rfl) ?_
              refine Plan.move_ptr rfl rfl ?_
              refine Plan.buildZ FSkipsOnce.row71 FSkipsOnce.z71 rfl ?_
              refine Plan.buildLO (D := D71) (sz := 32) h90 [((), (fun _ => 0#8))] FSkipsOnce.slu66 FSkipsOnce.sz71 FSkipsOnce.zv71 (by decide) (by decide) rfl rfl rfl rfl (fun _ _ => trivial) (EffO.keep PIn.nil) fun b118 w118 F118 hb118 ho118 h118 => ?_
              replace ho118 : LO D71 [] (some ⟨b118, 0, none⟩) (some b118) ([(fun _ => 0#8)] : List (Nat → BitVec 8)).length 1 F118 ([(fun _ => 0#8)] : List (Nat → BitVec 8)) := ho118.re (fun _ _ h => h)
              have h119 := St.pickT (C := [_, _, _, _]) h118 [1, 2, 0, 3] (by decide)
              simp only [pick, List.filterMap_cons, List.filterMap_nil, List.getElem?_cons_zero, List.getElem?_cons_succ, List.cons_append, List.nil_append] at h119
              obtain ⟨x_121, x_122, hr120, hR⟩ := hR
              refine Plan.call (vs := [.pointer (some ⟨b0_20, 0, none⟩), VU .u32 (3#32), VU .u32 (7#32), .slice (some ⟨b118, 0, none⟩) (([(fun _ => 0#8)] : List (Nat → BitVec 8)).length) 1]) rfl FSkipsOnce.call36 rfl (skips_Table_Add_ok (w0 := w0) (by exact (LO.lvf D71_flat ho118 0 rfl)) hr120 (show St B (w0.on [mapR kv2 D71 [] mw0_1_21 x_82]) _ _ from h119)) ?_
              rintro _ w123 ⟨rfl, h123⟩
              replace h123 : St B (w0.on [mapR kv2 D71 [] mw0_1_21 x_122]) _ _ := h123
              refine ⟨_, rfl, .inl ⟨PIn.keep PIn.nil h123, ?_⟩⟩
              by_cases hc124 : x_121 ≠ 151
              ·
                replace hR := ifT hR hc124
                refine Plan.cmpV (a := (((x_121 : Nat) : Int) : Int)) (b := (151 : Int)) (p := x_121 ≠ 151) (v := true) rfl rfl rfl rfl icmp_neN (decide_eq_true hc124) ?_
                refine Plan.move_bool rfl rfl ?_
                refine Plan.passed rfl ?_
                refine Plan.passed rfl ?_
                refine Plan.passed rfl ?_
                refine Plan.passed rfl ?_
                refine Plan.passed rfl ?_
                refine Plan.passed rfl ?_
                refine Plan.pickTb rfl rfl rfl ?_
                refine Plan.nil ?_
                refine hK116 _ _ ?_; clear hK116
                refine W.condT rfl ?_
                refine W.seq_k fun K125 hK125 => ?_
                refine W.regionT [(0, true)] (by kernel_rfl) ?_
                refine Plan.assign_bool rfl rfl ?_
                refine Plan.nil ?_
                refine hK125 _ _ ?_; clear hK125
                refine W.ret (thenR_ret (finR_ret ?_))
                have h126 := St.pickT (C := [_, _, _, _]) h123 [] (by decide)
                simp only [pick, List.filterMap_cons, List.filterMap_nil, List.getElem?_cons_zero, List.getElem?_cons_succ, List.cons_append, List.nil_append] at h126
                have h127 : St B w0 _ _ := St.mpick (N := [mapR kv2 D71 [] mw0_1_21 x_122]) (N' := []) h126 [] (by decide) rfl
                subst r
                refine RetOk.mk (.tmp_bool rfl .nil) ?_
                exact ⟨rfl, h127⟩
              ·
                replace hR := ifF hR hc124
                refine Plan.cmpV (a := (((x_121 : Nat) : Int) : Int)) (b := (151 : Int)) (p := x_121 ≠ 151) (v := false) rfl rfl rfl rfl icmp_neN (decide_eq_false hc124) ?_
                refine Plan.move_bool rfl rfl ?_
                refine Plan.move_ptr rfl rfl ?_
                refine Plan.buildZ FSkipsOnce.row71 FSkipsOnce.z71 rfl ?_
                refine Plan.buildZ FSkipsOnce.row71 FSkipsOnce.z71 rfl ?_
                refine Plan.buildLO (D := D71) (sz := 32) h123 [((), (fun _ => 0#8)), ((), (fun _ => 0#8))] FSkipsOnce.slu66 FSkipsOnce.sz71 FSkipsOnce.zv71 (by decide) (by decide) rfl rfl rfl rfl (fun _ _ => trivial) (EffO.keep PIn.nil) fun b129 w129 F129 hb129 ho129 h129 => ?_
                replace ho129 : LO D71 [] (some ⟨b129, 0, none⟩) (some b129) ([(fun _ => 0#8), (fun _ => 0#8)] : List (Nat → BitVec 8)).length 2 F129 ([(fun _ => 0#8), (fun _ => 0#8)] : List (Nat → BitVec 8)) := ho129.re (fun _ _ h => h)
                have h130 := St.pickT (C := [_, _, _, _, _]) h129 [1, 2, 0, 3, 4] (by decide)
                simp only [pick, List.filterMap_cons, List.filterMap_nil, List.getElem?_cons_zero, List.getElem?_cons_succ, List.cons_append, List.nil_append] at h130
                obtain ⟨x_132, x_133, hr131, hR⟩ := hR
                refine Plan.call (vs := [.pointer (some ⟨b0_20, 0, none⟩), VU .u32 (5#32), VU .u32 (4294967295#32), .slice (some ⟨b129, 0, none⟩) (([(fun _ => 0#8), (fun _ => 0#8)] : List (Nat → BitVec 8)).length) 2]) rfl FSkipsOnce.call36 rfl (skips_Table_Add_ok (w0 := w0) (by exact (LO.lvf D71_flat ho129 0 rfl)) hr131 (show St B (w0.on [mapR kv2 D71 [] mw0_1_21 x_122]) _ _ from h130)) ?_
                rintro _ w134 ⟨rfl, h134⟩
                replace h134 : St B (w0.on [mapR kv2 D71 [] mw0_1_21 x_133]) _ _ := h134
                refine ⟨_, rfl, .inl ⟨PIn.keep PIn.nil h134, ?_⟩⟩
                refine Plan.cmpP (a := (((x_132 : Nat) : Int) : Int)) (b := (130 : Int)) (p := x_132 ≠ 130) rfl rfl rfl rfl icmp_neN ?_
                refine Plan.pickFb rfl rfl rfl ?_
                refine Plan.nil ?_
                refine hK116 _ _ ?_; clear hK116
                by_cases hc135 : x_132 ≠ 130
                ·
                  replace hR := ifT hR hc135
                  refine W.condT (congrArg Value.bool (decide_eq_true hc135)) ?_
                  refine W.seq_k fun K136 hK136 => ?_
                  refine W.regionT [(0, true)] (by kernel_rfl) ?_
                  refine Plan.assign_bool rfl rfl ?_
                  refine Plan.nil ?_
                  refine hK136 _ _ ?_; clear hK136
                  refine W.ret (thenR_ret (finR_ret ?_))
                  have h137 := St.pickT (C := [_, _, _, _, _]) h134 [] (by decide)
                  simp only [pick, List.filterMap_cons, List.filterMap_nil, List.getElem?_cons_zero, List.getElem?_cons_succ, List.cons_append, List.nil_append] at h137
                  have h138 : St B w0 _ _ := St.mpick (N := [mapR kv2 D71 [] mw0_1_21 x_133]) (N' := []) h137 [] (by decide) rfl
                  subst r
                  refine RetOk.mk (.tmp_bool rfl .nil) ?_
                  exact ⟨rfl, h138⟩
                ·
                  replace hR := ifF hR hc135
                  refine W.condF (congrArg Value.bool (decide_eq_false hc135)) ?_
                  refine W.skip ?_
                  refine hK96 _ _ ?_; clear hK96
                  refine W.seq_k fun K139 hK139 => ?_
                  refine W.regionT [(0, true), (1, true), (2, false), (3, true)] (by kernel_rfl) ?_
                  refine Plan.move_slice rfl rfl ?_
                  refine Plan.len FSkipsOnce.isl66 rfl rfl ?_
                  obtain ⟨hc142, hR⟩ := hR
                  refine Plan.makeLO (D := D4) (len := (([(upd (fun _ => 0#8) 0 (1#8))] : List (Nat → BitVec 8)) ++ keys37).length) (c := (([(upd (fun _ => 0#8) 0 (1#8))] : List (Nat → BitVec 8)) ++ keys37).length) (sz := 1) h134 () false FSkipsOnce.el75 rfl rfl trivial rfl rfl rfl hc142.1 hc142.2 (by omega) (fun _ => EffO.keep PIn.nil) fun b141 w141 F141 hb141 ho141 h141 => ?_
                  replace ho141 : LO D4 [] (some ⟨b141, 0, none⟩) (some b141) (List.replicate ((([(upd (fun _ => 0#8) 0 (1#8))] : List (Nat → BitVec 8)) ++ keys37).length) false).length ((([(upd (fun _ => 0#8) 0 (1#8))] : List (Nat → BitVec 8)) ++ keys37).length) F141 (List.replicate ((([(upd (fun _ => 0#8) 0 (1#8))] : List (Nat → BitVec 8)) ++ keys37).length) false) := ho141.re (fun _ _ h => h)
                  refine Plan.assign_slice rfl rfl ?_
                  refine Plan.nil ?_
                  refine hK139 _ _ ?_; clear hK139
                  refine W.seq_k fun K143 hK143 => ?_
                  refine W.seq_k fun K144 hK144 => ?_
                  refine W.regionT [(0, true)] (by kernel_rfl) ?_
                  refine Plan.assign_int rfl rfl ?_
                  refine Plan.nil ?_
                  refine hK144 _ _ ?_; clear hK144
                  obtain ⟨left162, hI163, hR0163⟩ := hR
                  refine W.cutN (fun e w => ∃ y_left162 : List Bool, left162 = y_left162 ∧ ∃ n_left162 : Nat, ∃ aleft162 : Option Addr, ∃ pleft162 : Option Nat, ∃ cleft162 : Nat, ∃ Fleft162 : Nat → Value, EnvHas e [(0, .slice a47 ((([(upd (fun _ => 0#8) 0 (1#8))] : List (Nat → BitVec 8)) ++ keys37).length) cap47), (1, .slice atake2 take2.length ctake2), (5, .pointer (some ⟨b0_20, 0, none⟩)), (7, .slice aleft162 n_left162 cleft162)] ∧ St B (w0.on [mapR kv2 D71 [] mw0_1_21 x_133]) (⟨pleft162, 0, cleft162 * 1, Fleft162, true⟩ :: ⟨some b0_20, 0, 1, fun _ => .int .i64 x_7, true⟩ :: ⟨some b0_20, 1, 1, fun _ => .map (some mw0_1_21), true⟩ :: ⟨pb47, 0, cap47 * 32, F47, true⟩ :: L) w ∧ LO D4 [] aleft162 pleft162 n_left162 cleft162 Fleft162 y_left162) ?_ ?_
                  ·
                    refine W.block ?_
                    have h164 := St.pickT (C := [_, _, _, _, _, _]) h141 [0, 1, 2, 5] (by decide)
                    simp only [pick, List.filterMap_cons, List.filterMap_nil, List.getElem?_cons_zero, List.getElem?_cons_succ, List.cons_append, List.nil_append] at h164
                    refine W.iter hI163 (fun (s163 : ((List Bool) × Nat)) e w => ∃ n_left160 : Nat, ∃ aleft160 : Option Addr, ∃ pleft160 : Option Nat, ∃ cleft160 : Nat, ∃ Fleft160 : Nat → Value, EnvHas e [(0, .slice a47 ((([(upd (fun _ => 0#8) 0 (1#8))] : List (Nat → BitVec 8)) ++ keys37).length) cap47), (1, .slice atake2 take2.length ctake2), (5, .pointer (some ⟨b0_20, 0, none⟩)), (7, .slice aleft160 n_left160 cleft160), (8, VN s163.2)] ∧ St B (w0.on [mapR kv2 D71 [] mw0_1_21 x_133]) (⟨pleft160, 0, cleft160 * 1, Fleft160, true⟩ :: ⟨some b0_20, 0, 1, fun _ => .int .i64 x_7, true⟩ :: ⟨some b0_20, 1, 1, fun _ => .map (some mw0_1_21), true⟩ :: ⟨pb47, 0, cap47 * 32, F47, true⟩ :: L) w ∧ LO D4 [] aleft160 pleft160 n_left160 cleft160 Fleft160 s163.1) ⟨(List.replicate ((([(upd (fun _ => 0#8) 0 (1#8))] : List (Nat → BitVec 8)) ++ keys37).length) false).length, some ⟨b141, 0, none⟩, some b141, (([(upd (fun _ => 0#8) 0 (1#8))] : List (Nat → BitVec 8)) ++ keys37).length, F141, (EnvHas.cons rfl (EnvHas.cons rfl (EnvHas.cons rfl (EnvHas.cons rfl (EnvHas.cons rfl EnvHas.nil))))), h164, ho141⟩ ?_
                    rintro ⟨left160, i_161⟩ o163 hR hx163 ev165 wl165 ⟨n_left160, aleft160, pleft160, cleft160, Fleft160, he165, h165, hleft160⟩
                    try dsimp only at he165 h165 hleft160
                    obtain rfl : List.length (α := Bool) left160 = n_left160 := hleft160.hl
                    obtain ⟨ev165, rfl⟩ := he165.open
                    unfold lethelaw15_SkipsOnce_l0 at hR
                    refine W.seq_k fun K166 hK166 => ?_
                    refine W.seq_k fun K167 hK167 => ?_
                    refine W.regionT [(0, true), (1, true), (2, true), (3, true)] (by kernel_rfl) ?_
                    refine Plan.move_int rfl rfl ?_
                    refine Plan.move_slice rfl rfl ?_
                    refine Plan.len FSkipsOnce.isl66 rfl rfl ?_
                    refine Plan.cmpP (a := (((i_161 : Nat) : Int) : Int)) (b := ((((([(upd (fun _ => 0#8) 0 (1#8))] : List (Nat → BitVec 8)) ++ keys37).length : Nat) : Int) : Int)) (p := i_161 < (([(upd (fun _ => 0#8) 0 (1#8))] : List (Nat → BitVec 8)) ++ keys37).length) rfl rfl rfl rfl icmp_ltN ?_
                    refine Plan.nil ?_
                    refine hK167 _ _ ?_; clear hK167
                    by_cases hc168 : i_161 < (([(upd (fun _ => 0#8) 0 (1#8))] : List (Nat → BitVec 8)) ++ keys37).length
                    ·
                      replace hR := ifT hR hc168
                      refine W.condT (congrArg Value.bool (decide_eq_true hc168)) ?_
                      refine W.skip ?_
                      refine hK166 _ _ ?_; clear hK166
                      refine W.seq_k fun K169 hK169 => ?_
                      refine W.block ?_
                      refine W.regionT [(0, true), (1, true), (2, true), (3, false)] (by kernel_rfl) ?_
                      refine Plan.move_slice rfl rfl ?_
                      refine Plan.move_int rfl rfl ?_
                      obtain ⟨hc170, hR⟩ := hR
                      refine Plan.idxLVS (D := D4) (j := i_161) h165 (LO.lvf D4_flat hleft160 0 rfl) FSkipsOnce.sl75 rfl rfl rfl hc170 ?_
                      refine Plan.storeLO1 (D := D4) (j := i_161) h165 () true (.bool true) 0 hleft160 trivial rfl rfl rfl rfl rfl hc170 rfl FSkipsOnce.sz4 rfl fun w171 F171 ho171 h171 => ?_
                      simp only [List.cons_append, List.nil_append, List.set_cons_zero, List.set_cons_succ] at h171
                      have e171 : (left160.set i_161 true).length = left160.length := List.length_set
                      refine Plan.nil ?_
                      refine blockR_norm ?_
                      refine hK169 _ _ ?_; clear hK169
                      refine W.regionT [(0, true), (1, true), (2, true)] (by kernel_rfl) ?_
                      refine Plan.move_int rfl rfl ?_
                      obtain ⟨hc172, hR⟩ := hR
                      refine Plan.addN (a := i_161) (b := 1) rfl rfl rfl (by omega) ?_
                      refine Plan.assign_int rfl rfl ?_
                      refine Plan.nil ?_
                      exact iterR_norm ⟨_, hR, left160.length, aleft160, pleft160, cleft160, F171, (EnvHas.cons rfl (EnvHas.cons rfl (EnvHas.cons rfl (EnvHas.cons rfl (EnvHas.cons rfl EnvHas.nil))))), h171, (show LO D4 [] _ _ left160.length _ _ _ from ho171)⟩
                    ·
                      replace hR := ifF hR hc168
                      refine W.condF (congrArg Value.bool (decide_eq_false hc168)) ?_
                      refine W.exit (thenR_exit (iterR_exit (blockR_here ?_)))
                      exact ⟨left160, (hx163 _ hR).symm, left160.length, aleft160, pleft160, cleft160, Fleft160, (EnvHas.cons rfl (EnvHas.cons rfl (EnvHas.cons rfl (EnvHas.cons rfl EnvHas.nil)))), h165, hleft160⟩
                  ·
                    rintro ev173 wl173 ⟨y_left162, hy173, n_left162, aleft162, pleft162, cleft162, Fleft162, he173, h173, hleft162⟩
                    obtain ⟨ev173, rfl⟩ := he173.open
                    subst hy173
                    replace hR := hR0163
                    obtain rfl : List.length (α := Bool) left162 = n_left162 := hleft162.hl
                    refine hK143 _ _ ?_; clear hK143
                    refine W.seq_k fun K174 hK174 => ?_
                    refine W.seq_k fun K175 hK175 => ?_
                    refine W.regionT [(0, true)] (by kernel_rfl) ?_
                    refine Plan.assign_int rfl rfl ?_
                    refine Plan.nil ?_
                    refine hK175 _ _ ?_; clear hK175
                    obtain ⟨x302, hI302, hR0302⟩ := hR
                    refine W.cutN (fun e w => ∃ y_mp300 : List ((BitVec 32 × BitVec 32) × (Nat → BitVec 8)), ∃ y_left301 : List Bool, x302 = some (y_mp300, y_left301) ∧ ∃ n_left301 : Nat, ∃ aleft301 : Option Addr, ∃ pleft301 : Option Nat, ∃ cleft301 : Nat, ∃ Fleft301 : Nat → Value, EnvHas e [(0, .slice a47 ((([(upd (fun _ => 0#8) 0 (1#8))] : List (Nat → BitVec 8)) ++ keys37).length) cap47), (5, .pointer (some ⟨b0_20, 0, none⟩)), (7, .slice aleft301 n_left301 cleft301)] ∧ St B (w0.on [mapR kv2 D71 [] mw0_1_21 y_mp300]) (⟨pleft301, 0, cleft301 * 1, Fleft301, true⟩ :: ⟨some b0_20, 0, 1, fun _ => .int .i64 x_7, true⟩ :: ⟨some b0_20, 1, 1, fun _ => .map (some mw0_1_21), true⟩ :: ⟨pb47, 0, cap47 * 32, F47, true⟩ :: L) w ∧ LO D4 [] aleft301 pleft301 n_left301 cleft301 Fleft301 y_left301) ?_ ?_
                    ·
                      refine W.block ?_
                      refine W.iter hI302 (fun (s302 : ((List ((BitVec 32 × BitVec 32) × (Nat → BitVec 8))) × (List Bool) × Nat)) e w => ∃ n_left298 : Nat, ∃ aleft298 : Option Addr, ∃ pleft298 : Option Nat, ∃ cleft298 : Nat, ∃ Fleft298 : Nat → Value, EnvHas e [(0, .slice a47 ((([(upd (fun _ => 0#8) 0 (1#8))] : List (Nat → BitVec 8)) ++ keys37).length) cap47), (1, .slice atake2 take2.length ctake2), (5, .pointer (some ⟨b0_20, 0, none⟩)), (7, .slice aleft298 n_left298 cleft298), (9, VN s302.2.2)] ∧ St B (w0.on [mapR kv2 D71 [] mw0_1_21 s302.1]) (⟨pleft298, 0, cleft298 * 1, Fleft298, true⟩ :: ⟨some b0_20, 0, 1, fun _ => .int .i64 x_7, true⟩ :: ⟨some b0_20, 1, 1, fun _ => .map (some mw0_1_21), true⟩ :: ⟨pb47, 0, cap47 * 32, F47, true⟩ :: L) w ∧ LO D4 [] aleft298 pleft298 n_left298 cleft298 Fleft298 s302.2.1) ⟨left162.length, aleft162, pleft162, cleft162, Fleft162, (EnvHas.cons rfl (EnvHas.cons rfl (EnvHas.cons rfl (EnvHas.cons rfl (EnvHas.cons rfl EnvHas.nil))))), h173, hleft162⟩ ?_
                      rintro ⟨mp297, left298, i_299⟩ o302 hR hx302 ev303 wl303 ⟨n_left298, aleft298, pleft298, cleft298, Fleft298, he303, h303, hleft298⟩
                      try dsimp only at he303 h303 hleft298
                      obtain rfl : List.length (α := Bool) left298 = n_left298 := hleft298.hl
                      obtain ⟨ev303, rfl⟩ := he303.open
                      unfold lethelaw15_SkipsOnce_l1 at hR
                      refine W.seq_k fun K304 hK304 => ?_
                      refine W.seq_k fun K308 hK308 => ?_
                      refine W.regionT [(0, true), (1, true), (2, true), (3, true), (4, true), (5, true), (6, true), (7, true)] (by kernel_rfl) ?_
                      refine Plan.move_int rfl rfl ?_
                      refine Plan.move_slice rfl rfl ?_
                      refine Plan.len FSkipsOnce.isl43 rfl rfl ?_
                      by_cases hc309 : i_299 < take2.length
                      ·
                        replace hR := ifT hR hc309
                        refine Plan.cmpV (a := (((i_299 : Nat) : Int) : Int)) (b := (((take2.length : Nat) : Int) : Int)) (p := i_299 < take2.length) (v := true) rfl rfl rfl rfl icmp_ltN (decide_eq_true hc309) ?_
                        refine Plan.move_bool rfl rfl ?_
                        refine Plan.move_int rfl rfl ?_
                        refine Plan.cmpP (a := (((i_299 : Nat) : Int) : Int)) (b := (60 : Int)) (p := i_299 < 60) rfl rfl rfl rfl icmp_ltN ?_
                        refine Plan.pickTb rfl rfl rfl ?_
                        refine Plan.nil ?_
                        refine hK308 _ _ ?_; clear hK308
                        by_cases hc310 : i_299 < 60
                        ·
                          replace hR := ifT hR hc310
                          refine W.condT (congrArg Value.bool (decide_eq_true hc310)) ?_
                          refine W.skip ?_
                          refine hK304 _ _ ?_; clear hK304
                          refine W.seq_k fun K311 hK311 => ?_
                          refine W.block ?_
                          refine W.seq_k fun K312 hK312 => ?_
                          refine W.regionD FSkipsOnce.mixed [(0, true), (1, true), (2, true), (3, true), (4, true), (5, true), (6, true), (7, true), (8, true), (9, true), (10, true), (11, true), (12, true), (13, true), (14, true)] (by kernel_rfl) ?_
                          have h313 := h303.drew
                          refine Plan.move_slice rfl rfl ?_
                          refine Plan.move_int rfl rfl ?_
                          obtain ⟨hc314, hR⟩ := hR
                          refine Plan.idxLVS (D := D3) (j := i_299) h313 (htake2.app [_, _, _, _]) FSkipsOnce.sl43 rfl rfl rfl hc314 ?_
                          refine Plan.loadLV1 (D := D3) (X := take2) (j := i_299) h313 (0 : Int) (fun _ x => .int .i64 x) (htake2.app [_, _, _, _]) rfl rfl hc314 rfl (fun _ _ => rfl) FSkipsOnce.sc3 fun b315 r315 hs315 hr315 => ?_
                          refine Plan.move_slice rfl rfl ?_
                          refine Plan.move_int rfl rfl ?_
                          obtain ⟨hc316, hR⟩ := hR
                          refine Plan.idxLVS (D := D3) (j := i_299) h313 (htake2.app [_, _, _, _]) FSkipsOnce.sl43 rfl rfl rfl hc316 ?_
                          refine Plan.loadLV1 (D := D3) (X := take2) (j := i_299) h313 (0 : Int) (fun _ x => .int .i64 x) (htake2.app [_, _, _, _]) rfl rfl hc316 rfl (fun _ _ => rfl) FSkipsOnce.sc3 fun b317 r317 hs317 hr317 => ?_
                          refine Plan.addW (a := (take2.getD i_299 (0 : Int))) (b := 1) rfl rfl rfl ?_
                          refine Plan.negW (a := (w64 ((take2.getD i_299 (0 : Int)) + 1))) rfl rfl ?_
                          refine Plan.maxI (a := (take2.getD i_299 (0 : Int))) (b := (w64 (-(w64 ((take2.getD i_299 (0 : Int)) + 1))))) rfl rfl rfl ?_
                          refine Plan.move_slice rfl rfl ?_
                          refine Plan.len FSkipsOnce.isl66 rfl rfl ?_
                          obtain ⟨hc318, hR⟩ := hR
                          refine Plan.remI (a := (max (take2.getD i_299 (0 : Int)) (w64 (-(w64 ((take2.getD i_299 (0 : Int)) + 1)))))) (b := (((([(upd (fun _ => 0#8) 0 (1#8))] : List (Nat → BitVec 8)) ++ keys37).length : Nat) : Int)) rfl rfl rfl hc318 ?_
                          refine Plan.assign_int rfl rfl ?_
                          refine Plan.nil ?_
                          refine hK312 _ _ ?_; clear hK312
                          refine W.seq_k fun K319 hK319 => ?_
                          refine W.regionT [(0, true), (1, true), (2, true), (3, true), (4, false), (5, true), (6, true), (7, true), (8, false), (9, false), (10, true)] (by kernel_rfl) ?_
                          refine Plan.move_ptr rfl rfl ?_
                          refine Plan.move_int rfl rfl ?_
                          refine Plan.convIU .u32 (a := ((max (take2.getD i_299 (0 : Int)) (w64 (-(w64 ((take2.getD i_299 (0 : Int)) + 1))))).tmod (((([(upd (fun _ => 0#8) 0 (1#8))] : List (Nat → BitVec 8)) ++ keys37).length : Nat) : Int))) FSkipsOnce.u73 FSkipsOnce.some3 rfl rfl ?_
                          refine Plan.addU .u32 (X := 7#32) (Y := (BitVec.ofInt 32 ((max (take2.getD i_299 (0 : Int)) (w64 (-(w64 ((take2.getD i_299 (0 : Int)) + 1))))).tmod (((([(upd (fun _ => 0#8) 0 (1#8))] : List (Nat → BitVec 8)) ++ keys37).length : Nat) : Int)))) rfl rfl rfl ?_
                          have h320 := St.pickT (C := [_, _, _, _]) h313 [1, 2, 0, 3] (by decide)
                          simp only [pick, List.filterMap_cons, List.filterMap_nil, List.getElem?_cons_zero, List.getElem?_cons_succ, List.cons_append, List.nil_append] at h320
                          obtain ⟨x_322, x_323, hr321, hR⟩ := hR
                          refine Plan.call (vs := [.pointer (some ⟨b0_20, 0, none⟩), VU .u32 (3#32), VU .u32 ((7#32) + (BitVec.ofInt 32 ((max (take2.getD i_299 (0 : Int)) (w64 (-(w64 ((take2.getD i_299 (0 : Int)) + 1))))).tmod (((([(upd (fun _ => 0#8) 0 (1#8))] : List (Nat → BitVec 8)) ++ keys37).length : Nat) : Int))))]) rfl FSkipsOnce.call38 rfl (skips_Table_Find_ok (w0 := w0) hr321 (show St B (w0.on [mapR kv2 D71 [] mw0_1_21 mp297]) _ _ from h320)) ?_
                          rintro _ w324 ⟨rfl, h324⟩
                          replace h324 : St B (w0.on [mapR kv2 D71 [] mw0_1_21 mp297]) _ _ := h324
                          refine ⟨_, rfl, .inl ⟨PIn.keep PIn.nil h324, ?_⟩⟩
                          refine Plan.move_tuple rfl rfl ?_
                          refine Plan.extract_agg rfl rfl rfl ?_
                          refine Plan.extract_int rfl rfl rfl ?_
                          refine Plan.alloc h324 rfl FSkipsOnce.z71 PIn.nil fun b325 w325 hb325 h325 => ?_
                          simp only [rngs, Nat.zero_add, Nat.reduceAdd, List.cons_append, List.nil_append] at h325
                          refine Plan.storeA (f' := fun q => VU .u8 (x_322 q)) h325 0 rfl rfl rfl rfl (fun _ _ => rfl) FSkipsOnce.sz71 rfl fun w326 h326 => ?_
                          simp only [List.cons_append, List.nil_append, List.set_cons_zero, List.set_cons_succ] at h326
                          refine Plan.assign_int rfl rfl ?_
                          refine Plan.nil ?_
                          refine hK319 _ _ ?_; clear hK319
                          refine W.seq_k fun K327 hK327 => ?_
                          refine W.regionT [(0, true), (1, true), (2, true), (3, true), (4, false), (5, true), (6, true), (7, true), (8, false), (9, false), (10, true)] (by kernel_rfl) ?_
                          refine Plan.move_ptr rfl rfl ?_
                          refine Plan.move_int rfl rfl ?_
                          refine Plan.convIU .u32 (a := ((max (take2.getD i_299 (0 : Int)) (w64 (-(w64 ((take2.getD i_299 (0 : Int)) + 1))))).tmod (((([(upd (fun _ => 0#8) 0 (1#8))] : List (Nat → BitVec 8)) ++ keys37).length : Nat) : Int))) FSkipsOnce.u73 FSkipsOnce.some3 rfl rfl ?_
                          refine Plan.addU .u32 (X := 7#32) (Y := (BitVec.ofInt 32 ((max (take2.getD i_299 (0 : Int)) (w64 (-(w64 ((take2.getD i_299 (0 : Int)) + 1))))).tmod (((([(upd (fun _ => 0#8) 0 (1#8))] : List (Nat → BitVec 8)) ++ keys37).length : Nat) : Int)))) rfl rfl rfl ?_
                          have h328 := St.pickT (C := [_, _, _, _, _]) h326 [1, 2, 0, 3, 4] (by decide)
                          simp only [pick, List.filterMap_cons, List.filterMap_nil, List.getElem?_cons_zero, List.getElem?_cons_succ, List.cons_append, List.nil_append] at h328
                          obtain ⟨x_330, x_331, x_332, hr329, hR⟩ := hR
                          refine Plan.call (vs := [.pointer (some ⟨b0_20, 0, none⟩), VU .u32 (3#32), VU .u32 ((7#32) + (BitVec.ofInt 32 ((max (take2.getD i_299 (0 : Int)) (w64 (-(w64 ((take2.getD i_299 (0 : Int)) + 1))))).tmod (((([(upd (fun _ => 0#8) 0 (1#8))] : List (Nat → BitVec 8)) ++ keys37).length : Nat) : Int))))]) rfl FSkipsOnce.call39 rfl (skips_Table_Take_ok (w0 := w0) hr329 (show St B (w0.on [mapR kv2 D71 [] mw0_1_21 mp297]) _ _ from h328)) ?_
                          rintro _ w333 ⟨rfl, h333⟩
                          replace h333 : St B (w0.on [mapR kv2 D71 [] mw0_1_21 x_332]) _ _ := h333
                          refine ⟨_, rfl, .inl ⟨PIn.keep PIn.nil h333, ?_⟩⟩
                          refine Plan.move_tuple rfl rfl ?_
                          refine Plan.extract_agg rfl rfl rfl ?_
                          refine Plan.extract_int rfl rfl rfl ?_
                          refine Plan.alloc h333 rfl FSkipsOnce.z71 PIn.nil fun b334 w334 hb334 h334 => ?_
                          simp only [rngs, Nat.zero_add, Nat.reduceAdd, List.cons_append, List.nil_append] at h334
                          refine Plan.storeA (f' := fun q => VU .u8 (x_330 q)) h334 0 rfl rfl rfl rfl (fun _ _ => rfl) FSkipsOnce.sz71 rfl fun w335 h335 => ?_
                          simp only [List.cons_append, List.nil_append, List.set_cons_zero, List.set_cons_succ] at h335
                          refine Plan.assign_int rfl rfl ?_
                          refine Plan.nil ?_
                          refine hK327 _ _ ?_; clear hK327
                          refine W.seq_k fun K336 hK336 => ?_
                          refine W.seq_k fun K337 hK337 => ?_
                          refine W.regionT [(0, true), (1, true), (2, true), (3, true), (4, true)] (by kernel_rfl) ?_
                          refine Plan.move_slice rfl rfl ?_
                          refine Plan.move_int rfl rfl ?_
                          obtain ⟨hc338, hR⟩ := hR
                          refine Plan.idxLVS (D := D4) (j := ((max (take2.getD i_299 (0 : Int)) (w64 (-(w64 ((take2.getD i_299 (0 : Int)) + 1))))).tmod (((([(upd (fun _ => 0#8) 0 (1#8))] : List (Nat → BitVec 8)) ++ keys37).length : Nat) : Int)).toNat) h335 (LO.lvf D4_flat hleft298 4 rfl) FSkipsOnce.sl75 rfl rfl (congrArg (Value.int .i64) (Int.toNat_of_nonneg hc338.1).symm) (toNat_lt hc338.1 hc338.2) ?_
                          refine Plan.loadLV1 (D := D4) (X := left298) (j := ((max (take2.getD i_299 (0 : Int)) (w64 (-(w64 ((take2.getD i_299 (0 : Int)) + 1))))).tmod (((([(upd (fun _ => 0#8) 0 (1#8))] : List (Nat → BitVec 8)) ++ keys37).length : Nat) : Int)).toNat) h335 false (fun _ x => .bool x) (LO.lvf D4_flat hleft298 4 rfl) rfl rfl (toNat_lt hc338.1 hc338.2) rfl (fun _ _ => rfl) FSkipsOnce.sc4 fun b339 r339 hs339 hr339 => ?_
                          refine Plan.not rfl rfl ?_
                          refine Plan.nil ?_
                          refine hK337 _ _ ?_; clear hK337
                          by_cases hc340 : (left298.getD (((max (take2.getD i_299 (0 : Int)) (w64 (-(w64 ((take2.getD i_299 (0 : Int)) + 1))))).tmod (((([(upd (fun _ => 0#8) 0 (1#8))] : List (Nat → BitVec 8)) ++ keys37).length : Nat) : Int)).toNat) false) = true
                          ·
                            replace hR := ifT hR hc340
                            refine W.condF (congrArg Value.bool (congrArg Bool.not hc340)) ?_
                            refine W.skip ?_
                            refine hK336 _ _ ?_; clear hK336
                            refine W.seq_k fun K341 hK341 => ?_
                            refine W.regionT [(0, true), (1, true), (2, true), (3, false)] (by kernel_rfl) ?_
                            refine Plan.move_slice rfl rfl ?_
                            refine Plan.move_int rfl rfl ?_
                            obtain ⟨hc342, hR⟩ := hR
                            refine Plan.idxLVS (D := D4) (j := ((max (take2.getD i_299 (0 : Int)) (w64 (-(w64 ((take2.getD i_299 (0 : Int)) + 1))))).tmod (((([(upd (fun _ => 0#8) 0 (1#8))] : List (Nat → BitVec 8)) ++ keys37).length : Nat) : Int)).toNat) h335 (LO.lvf D4_flat hleft298 4 rfl) FSkipsOnce.sl75 rfl rfl (congrArg (Value.int .i64) (Int.toNat_of_nonneg hc342.1).symm) (toNat_lt hc342.1 hc342.2) ?_
                            refine Plan.storeLO1 (D := D4) (j := ((max (take2.getD i_299 (0 : Int)) (w64 (-(w64 ((take2.getD i_299 (0 : Int)) + 1))))).tmod (((([(upd (fun _ => 0#8) 0 (1#8))] : List (Nat → BitVec 8)) ++ keys37).length : Nat) : Int)).toNat) h335 () false (.bool false) 4 hleft298 trivial rfl rfl rfl rfl rfl (toNat_lt hc342.1 hc342.2) rfl FSkipsOnce.sz4 rfl fun w343 F343 ho343 h343 => ?_
                            simp only [List.cons_append, List.nil_append, List.set_cons_zero, List.set_cons_succ] at h343
                            have e343 : (left298.set (((max (take2.getD i_299 (0 : Int)) (w64 (-(w64 ((take2.getD i_299 (0 : Int)) + 1))))).tmod (((([(upd (fun _ => 0#8) 0 (1#8))] : List (Nat → BitVec 8)) ++ keys37).length : Nat) : Int)).toNat) false).length = left298.length := List.length_set
                            refine Plan.nil ?_
                            refine hK341 _ _ ?_; clear hK341
                            refine W.seq_k fun K344 hK344 => ?_
                            refine W.regionD FSkipsOnce.mixed [(0, true), (1, true), (2, true), (3, true), (4, true), (5, true), (6, true), (7, true), (8, true), (9, true), (10, true), (11, true), (12, true), (13, true), (14, true), (15, true), (16, true), (17, true), (18, true), (19, true), (20, true), (21, true)] (by kernel_rfl) ?_
                            have h345 := h343.drew
                            refine Plan.move_int rfl rfl ?_
                            by_cases hc346 : x_323 ≠ 0
                            ·
                              replace hR := ifT hR hc346
                              refine Plan.cmpV (a := (((x_323 : Nat) : Int) : Int)) (b := (0 : Int)) (p := x_323 ≠ 0) (v := true) rfl rfl rfl rfl icmp_neN (decide_eq_true hc346) ?_
                              refine Plan.move_bool rfl rfl ?_
                              refine Plan.passed rfl ?_
                              refine Plan.passed rfl ?_
                              refine Plan.pickTb rfl rfl rfl ?_
                              refine Plan.move_bool rfl rfl ?_
                              refine Plan.passed rfl ?_
                              refine Plan.passed rfl ?_
                              refine Plan.passed rfl ?_
                              refine Plan.passed rfl ?_
                              refine Plan.passed rfl ?_
                              refine Plan.passed rfl ?_
                              refine Plan.pickTb rfl rfl rfl ?_
                              refine Plan.move_bool rfl rfl ?_
                              refine Plan.passed rfl ?_
                              refine Plan.passed rfl ?_
                              refine Plan.passed rfl ?_
                              refine Plan.passed rfl ?_
                              refine Plan.passed rfl ?_
                              refine Plan.passed rfl ?_
                              refine Plan.pickTb rfl rfl rfl ?_
                              refine Plan.nil ?_
                              refine hK344 _ _ ?_; clear hK344
                              refine W.condT rfl ?_
                              refine W.seq_k fun K347 hK347 => ?_
                              refine W.regionT [(0, true)] (by kernel_rfl) ?_
                              refine Plan.assign_bool rfl rfl ?_
                              refine Plan.nil ?_
                              refine hK347 _ _ ?_; clear hK347
                              refine W.ret (blockR_ret (thenR_ret (iterR_ret (blockR_ret (thenR_ret (thenR_ret (finR_ret ?_)))))))
                              have h348 := St.pickT (C := [_, _, _, _, _, _]) h345 [] (by decide)
                              simp only [pick, List.filterMap_cons, List.filterMap_nil, List.getElem?_cons_zero, List.getElem?_cons_succ, List.cons_append, List.nil_append] at h348
                              have h349 : St B w0 _ _ := St.mpick (N := [mapR kv2 D71 [] mw0_1_21 x_332]) (N' := []) h348 [] (by decide) rfl
                              replace hR := hR.2
                              subst r
                              refine RetOk.mk (.tmp_bool rfl .nil) ?_
                              exact ⟨rfl, h349⟩
                            ·
                              replace hR := ifF hR hc346
                              refine Plan.cmpV (a := (((x_323 : Nat) : Int) : Int)) (b := (0 : Int)) (p := x_323 ≠ 0) (v := false) rfl rfl rfl rfl icmp_neN (decide_eq_false hc346) ?_
                              refine Plan.move_bool rfl rfl ?_
                              refine Plan.move_int rfl rfl ?_
                              by_cases hc350 : x_331 ≠ 0
                              ·
                                replace hR := ifT hR hc350
                                refine Plan.cmpV (a := (((x_331 : Nat) : Int) : Int)) (b := (0 : Int)) (p := x_331 ≠ 0) (v := true) rfl rfl rfl rfl icmp_neN (decide_eq_true hc350) ?_
                                refine Plan.pickFb rfl rfl rfl ?_
                                refine Plan.move_bool rfl rfl ?_
                                refine Plan.passed rfl ?_
                                refine Plan.passed rfl ?_
                                refine Plan.passed rfl ?_
                                refine Plan.passed rfl ?_
                                refine Plan.passed rfl ?_
                                refine Plan.passed rfl ?_
                                refine Plan.pickTb rfl rfl rfl ?_
                                refine Plan.move_bool rfl rfl ?_
                                refine Plan.passed rfl ?_
                                refine Plan.passed rfl ?_
                                refine Plan.passed rfl ?_
                                refine Plan.passed rfl ?_
                                refine Plan.passed rfl ?_
                                refine Plan.passed rfl ?_
                                refine Plan.pickTb rfl rfl rfl ?_
                                refine Plan.nil ?_
                                refine hK344 _ _ ?_; clear hK344
                                refine W.condT rfl ?_
                                refine W.seq_k fun K351 hK351 => ?_
                                refine W.regionT [(0, true)] (by kernel_rfl) ?_
                                refine Plan.assign_bool rfl rfl ?_
                                refine Plan.nil ?_
                                refine hK351 _ _ ?_; clear hK351
                                refine W.ret (blockR_ret (thenR_ret (iterR_ret (blockR_ret (thenR_ret (thenR_ret (finR_ret ?_)))))))
                                have h352 := St.pickT (C := [_, _, _, _, _, _]) h345 [] (by decide)
                                simp only [pick, List.filterMap_cons, List.filterMap_nil, List.getElem?_cons_zero, List.getElem?_cons_succ, List.cons_append, List.nil_append] at h352
                                have h353 : St B w0 _ _ := St.mpick (N := [mapR kv2 D71 [] mw0_1_21 x_332]) (N' := []) h352 [] (by decide) rfl
                                replace hR := hR.2
                                subst r
                                refine RetOk.mk (.tmp_bool rfl .nil) ?_
                                exact ⟨rfl, h353⟩
                              ·
                                replace hR := ifF hR hc350
                                refine Plan.cmpV (a := (((x_331 : Nat) : Int) : Int)) (b := (0 : Int)) (p := x_331 ≠ 0) (v := false) rfl rfl rfl rfl icmp_neN (decide_eq_false hc350) ?_
                                refine Plan.pickFb rfl rfl rfl ?_
                                refine Plan.move_bool rfl rfl ?_
                                refine Plan.loadA1 h345 3 rfl rfl rfl FSkipsOnce.agg71 ?_
                                refine Plan.move_slice rfl rfl ?_
                                refine Plan.move_int rfl rfl ?_
                                obtain ⟨hc354, hR⟩ := hR
                                refine Plan.idxLVS (D := D71) (j := ((max (take2.getD i_299 (0 : Int)) (w64 (-(w64 ((take2.getD i_299 (0 : Int)) + 1))))).tmod (((([(upd (fun _ => 0#8) 0 (1#8))] : List (Nat → BitVec 8)) ++ keys37).length : Nat) : Int)).toNat) h345 (LO.lvf D71_flat ho47 5 rfl) FSkipsOnce.sl66 rfl rfl (congrArg (Value.int .i64) (Int.toNat_of_nonneg hc354.1).symm) (toNat_lt hc354.1 hc354.2) ?_
                                refine Plan.loadLV (D := D71) (X := (([(upd (fun _ => 0#8) 0 (1#8))] : List (Nat → BitVec 8)) ++ keys37)) (j := ((max (take2.getD i_299 (0 : Int)) (w64 (-(w64 ((take2.getD i_299 (0 : Int)) + 1))))).tmod (((([(upd (fun _ => 0#8) 0 (1#8))] : List (Nat → BitVec 8)) ++ keys37).length : Nat) : Int)).toNat) (sz := 32) h345 (fun _ => 0#8) (LO.lvf D71_flat ho47 5 rfl) rfl rfl (toNat_lt hc354.1 hc354.2) rfl FSkipsOnce.agg71 fun b355 r355 hs355 hr355 => ?_
                                by_cases hc356 : (eqB 32 x_322 ((([(upd (fun _ => 0#8) 0 (1#8))] : List (Nat → BitVec 8)) ++ keys37).getD (((max (take2.getD i_299 (0 : Int)) (w64 (-(w64 ((take2.getD i_299 (0 : Int)) + 1))))).tmod (((([(upd (fun _ => 0#8) 0 (1#8))] : List (Nat → BitVec 8)) ++ keys37).length : Nat) : Int)).toNat) (fun _ => 0#8))) = true
                                ·
                                  replace hR := ifT hR hc356
                                  refine Plan.neArrV (b := true) FSkipsOnce.arrI71 rfl rfl rfl hc356 ?_
                                  refine Plan.pickFb rfl rfl rfl ?_
                                  refine Plan.move_bool rfl rfl ?_
                                  refine Plan.loadA1 h345 0 rfl rfl rfl FSkipsOnce.agg71 ?_
                                  refine Plan.move_slice rfl rfl ?_
                                  refine Plan.move_int rfl rfl ?_
                                  obtain ⟨hc357, hR⟩ := hR
                                  refine Plan.idxLVS (D := D71) (j := ((max (take2.getD i_299 (0 : Int)) (w64 (-(w64 ((take2.getD i_299 (0 : Int)) + 1))))).tmod (((([(upd (fun _ => 0#8) 0 (1#8))] : List (Nat → BitVec 8)) ++ keys37).length : Nat) : Int)).toNat) h345 (LO.lvf D71_flat ho47 5 rfl) FSkipsOnce.sl66 rfl rfl (congrArg (Value.int .i64) (Int.toNat_of_nonneg hc357.1).symm) (toNat_lt hc357.1 hc357.2) ?_
                                  refine Plan.loadLV (D := D71) (X := (([(upd (fun _ => 0#8) 0 (1#8))] : List (Nat → BitVec 8)) ++ keys37)) (j := ((max (take2.getD i_299 (0 : Int)) (w64 (-(w64 ((take2.getD i_299 (0 : Int)) + 1))))).tmod (((([(upd (fun _ => 0#8) 0 (1#8))] : List (Nat → BitVec 8)) ++ keys37).length : Nat) : Int)).toNat) (sz := 32) h345 (fun _ => 0#8) (LO.lvf D71_flat ho47 5 rfl) rfl rfl (toNat_lt hc357.1 hc357.2) rfl FSkipsOnce.agg71 fun b358 r358 hs358 hr358 => ?_
                                  refine Plan.neArrV (b := (eqB 32 x_330 ((([(upd (fun _ => 0#8) 0 (1#8))] : List (Nat → BitVec 8)) ++ keys37).getD (((max (take2.getD i_299 (0 : Int)) (w64 (-(w64 ((take2.getD i_299 (0 : Int)) + 1))))).tmod (((([(upd (fun _ => 0#8) 0 (1#8))] : List (Nat → BitVec 8)) ++ keys37).length : Nat) : Int)).toNat) (fun _ => 0#8)))) FSkipsOnce.arrI71 rfl rfl rfl rfl ?_
                                  refine Plan.pickFb rfl rfl rfl ?_
                                  refine Plan.nil ?_
                                  refine hK344 _ _ ?_; clear hK344
                                  by_cases hc359 : (eqB 32 x_330 ((([(upd (fun _ => 0#8) 0 (1#8))] : List (Nat → BitVec 8)) ++ keys37).getD (((max (take2.getD i_299 (0 : Int)) (w64 (-(w64 ((take2.getD i_299 (0 : Int)) + 1))))).tmod (((([(upd (fun _ => 0#8) 0 (1#8))] : List (Nat → BitVec 8)) ++ keys37).length : Nat) : Int)).toNat) (fun _ => 0#8))) = true
                                  ·
                                    replace hR := ifT hR hc359
                                    refine W.condF (congrArg Value.bool (congrArg Bool.not hc359)) ?_
                                    refine W.skip ?_
                                    refine blockR_norm ?_
                                    refine hK311 _ _ ?_; clear hK311
                                    refine W.regionT [(0, true), (1, true), (2, true)] (by kernel_rfl) ?_
                                    refine Plan.move_int rfl rfl ?_
                                    refine Plan.addN (a := i_299) (b := 1) rfl rfl rfl (by omega) ?_
                                    refine Plan.assign_int rfl rfl ?_
                                    refine Plan.nil ?_
                                    have h360 := St.pickT (C := [_, _, _, _, _, _]) h345 [4, 1, 2, 5] (by decide)
                                    simp only [pick, List.filterMap_cons, List.filterMap_nil, List.getElem?_cons_zero, List.getElem?_cons_succ, List.cons_append, List.nil_append] at h360
                                    exact iterR_norm ⟨_, hR, left298.length, aleft298, pleft298, cleft298, F343, (EnvHas.cons rfl (EnvHas.cons rfl (EnvHas.cons rfl (EnvHas.cons rfl (EnvHas.cons rfl EnvHas.nil))))), h360, (show LO D4 [] _ _ left298.length _ _ _ from ho343)⟩
                                  ·
                                    replace hR := ifF hR hc359
                                    refine W.condT (congrArg Value.bool (congrArg Bool.not (Bool.eq_false_iff.2 hc359))) ?_
                                    refine W.seq_k fun K361 hK361 => ?_
                                    refine W.regionT [(0, true)] (by kernel_rfl) ?_
                                    refine Plan.assign_bool rfl rfl ?_
                                    refine Plan.nil ?_
                                    refine hK361 _ _ ?_; clear hK361
                                    refine W.ret (blockR_ret (thenR_ret (iterR_ret (blockR_ret (thenR_ret (thenR_ret (finR_ret ?_)))))))
                                    have h362 := St.pickT (C := [_, _, _, _, _, _]) h345 [] (by decide)
                                    simp only [pick, List.filterMap_cons, List.filterMap_nil, List.getElem?_cons_zero, List.getElem?_cons_succ, List.cons_append, List.nil_append] at h362
                                    have h363 : St B w0 _ _ := St.mpick (N := [mapR kv2 D71 [] mw0_1_21 x_332]) (N' := []) h362 [] (by decide) rfl
                                    replace hR := hR.2
                                    subst r
                                    refine RetOk.mk (.tmp_bool rfl .nil) ?_
                                    exact ⟨rfl, h363⟩
                                ·
                                  replace hR := ifF hR hc356
                                  refine Plan.neArrV (b := false) FSkipsOnce.arrI71 rfl rfl rfl (Bool.eq_false_iff.2 hc356) ?_
                                  refine Plan.pickFb rfl rfl rfl ?_
                                  refine Plan.move_bool rfl rfl ?_
                                  refine Plan.passed rfl ?_
                                  refine Plan.passed rfl ?_
                                  refine Plan.passed rfl ?_
                                  refine Plan.passed rfl ?_
                                  refine Plan.passed rfl ?_
                                  refine Plan.passed rfl ?_
                                  refine Plan.pickTb rfl rfl rfl ?_
                                  refine Plan.nil ?_
                                  refine hK344 _ _ ?_; clear hK344
                                  refine W.condT rfl ?_
                                  refine W.seq_k fun K364 hK364 => ?_
                                  refine W.regionT [(0, true)] (by kernel_rfl) ?_
                                  refine Plan.assign_bool rfl rfl ?_
                                  refine Plan.nil ?_
                                  refine hK364 _ _ ?_; clear hK364
                                  refine W.ret (blockR_ret (thenR_ret (iterR_ret (blockR_ret (thenR_ret (thenR_ret (finR_ret ?_)))))))
                                  have h365 := St.pickT (C := [_, _, _, _, _, _]) h345 [] (by decide)
                                  simp only [pick, List.filterMap_cons, List.filterMap_nil, List.getElem?_cons_zero, List.getElem?_cons_succ, List.cons_append, List.nil_append] at h365
                                  have h366 : St B w0 _ _ := St.mpick (N := [mapR kv2 D71 [] mw0_1_21 x_332]) (N' := []) h365 [] (by decide) rfl
                                  replace hR := hR.2
                                  subst r
                                  refine RetOk.mk (.tmp_bool rfl .nil) ?_
                                  exact ⟨rfl, h366⟩
                          ·
                            replace hR := ifF hR hc340
                            refine W.condT (congrArg Value.bool (congrArg Bool.not (Bool.eq_false_iff.2 hc340))) ?_
                            refine W.seq_k fun K367 hK367 => ?_
                            refine W.seq_k fun K368 hK368 => ?_
                            refine W.regionT [(0, true), (1, true), (2, true), (3, true), (4, true), (5, true)] (by kernel_rfl) ?_
                            refine Plan.move_int rfl rfl ?_
                            by_cases hc369 : x_323 ≠ 152
                            ·
                              replace hR := ifT hR hc369
                              refine Plan.cmpV (a := (((x_323 : Nat) : Int) : Int)) (b := (152 : Int)) (p := x_323 ≠ 152) (v := true) rfl rfl rfl rfl icmp_neN (decide_eq_true hc369) ?_
                              refine Plan.move_bool rfl rfl ?_
                              refine Plan.passed rfl ?_
                              refine Plan.passed rfl ?_
                              refine Plan.pickTb rfl rfl rfl ?_
                              refine Plan.nil ?_
                              refine hK368 _ _ ?_; clear hK368
                              refine W.condT rfl ?_
                              refine W.seq_k fun K370 hK370 => ?_
                              refine W.regionT [(0, true)] (by kernel_rfl) ?_
                              refine Plan.assign_bool rfl rfl ?_
                              refine Plan.nil ?_
                              refine hK370 _ _ ?_; clear hK370
                              refine W.ret (thenR_ret (thenR_ret (blockR_ret (thenR_ret (iterR_ret (blockR_ret (thenR_ret (thenR_ret (finR_ret ?_)))))))))
                              have h371 := St.pickT (C := [_, _, _, _, _, _]) h335 [] (by decide)
                              simp only [pick, List.filterMap_cons, List.filterMap_nil, List.getElem?_cons_zero, List.getElem?_cons_succ, List.cons_append, List.nil_append] at h371
                              have h372 : St B w0 _ _ := St.mpick (N := [mapR kv2 D71 [] mw0_1_21 x_332]) (N' := []) h371 [] (by decide) rfl
                              replace hR := hR.2
                              subst r
                              refine RetOk.mk (.tmp_bool rfl .nil) ?_
                              exact ⟨rfl, h372⟩
                            ·
                              replace hR := ifF hR hc369
                              refine Plan.cmpV (a := (((x_323 : Nat) : Int) : Int)) (b := (152 : Int)) (p := x_323 ≠ 152) (v := false) rfl rfl rfl rfl icmp_neN (decide_eq_false hc369) ?_
                              refine Plan.move_bool rfl rfl ?_
                              refine Plan.move_int rfl rfl ?_
                              refine Plan.cmpP (a := (((x_331 : Nat) : Int) : Int)) (b := (152 : Int)) (p := x_331 ≠ 152) rfl rfl rfl rfl icmp_neN ?_
                              refine Plan.pickFb rfl rfl rfl ?_
                              refine Plan.nil ?_
                              refine hK368 _ _ ?_; clear hK368
                              by_cases hc373 : x_331 ≠ 152
                              ·
                                replace hR := ifT hR hc373
                                refine W.condT (congrArg Value.bool (decide_eq_true hc373)) ?_
                                refine W.seq_k fun K374 hK374 => ?_
                                refine W.regionT [(0, true)] (by kernel_rfl) ?_
                                refine Plan.assign_bool rfl rfl ?_
                                refine Plan.nil ?_
                                refine hK374 _ _ ?_; clear hK374
                                refine W.ret (thenR_ret (thenR_ret (blockR_ret (thenR_ret (iterR_ret (blockR_ret (thenR_ret (thenR_ret (finR_ret ?_)))))))))
                                have h375 := St.pickT (C := [_, _, _, _, _, _]) h335 [] (by decide)
                                simp only [pick, List.filterMap_cons, List.filterMap_nil, List.getElem?_cons_zero, List.getElem?_cons_succ, List.cons_append, List.nil_append] at h375
                                have h376 : St B w0 _ _ := St.mpick (N := [mapR kv2 D71 [] mw0_1_21 x_332]) (N' := []) h375 [] (by decide) rfl
                                replace hR := hR.2
                                subst r
                                refine RetOk.mk (.tmp_bool rfl .nil) ?_
                                exact ⟨rfl, h376⟩
                              ·
                                replace hR := ifF hR hc373
                                refine W.condF (congrArg Value.bool (decide_eq_false hc373)) ?_
                                refine W.skip ?_
                                refine hK367 _ _ ?_; clear hK367
                                refine W.exit (thenR_exit (blockR_here ?_))
                                refine hK311 _ _ ?_; clear hK311
                                refine W.regionT [(0, true), (1, true), (2, true)] (by kernel_rfl) ?_
                                refine Plan.move_int rfl rfl ?_
                                refine Plan.addN (a := i_299) (b := 1) rfl rfl rfl (by omega) ?_
                                refine Plan.assign_int rfl rfl ?_
                                refine Plan.nil ?_
                                have h377 := St.pickT (C := [_, _, _, _, _, _]) h335 [4, 1, 2, 5] (by decide)
                                simp only [pick, List.filterMap_cons, List.filterMap_nil, List.getElem?_cons_zero, List.getElem?_cons_succ, List.cons_append, List.nil_append] at h377
                                exact iterR_norm ⟨_, hR, left298.length, aleft298, pleft298, cleft298, Fleft298, (EnvHas.cons rfl (EnvHas.cons rfl (EnvHas.cons rfl (EnvHas.cons rfl (EnvHas.cons rfl EnvHas.nil))))), h377, hleft298⟩
                        ·
                          replace hR := ifF hR hc310
                          refine W.condF (congrArg Value.bool (decide_eq_false hc310)) ?_
                          refine W.exit (thenR_exit (iterR_exit (blockR_here ?_)))
                          exact ⟨mp297, left298, (hx302 _ hR).symm, left298.length, aleft298, pleft298, cleft298, Fleft298, (EnvHas.cons rfl (EnvHas.cons rfl (EnvHas.cons rfl EnvHas.nil))), h303, hleft298⟩
                      ·
                        replace hR := ifF hR hc309
                        refine Plan.cmpV (a := (((i_299 : Nat) : Int) : Int)) (b := (((take2.length : Nat) : Int) : Int)) (p := i_299 < take2.length) (v := false) rfl rfl rfl rfl icmp_ltN (decide_eq_false hc309) ?_
                        refine Plan.move_bool rfl rfl ?_
                        refine Plan.passed rfl ?_
                        refine Plan.passed rfl ?_
                        refine Plan.pickFb rfl rfl rfl ?_
                        refine Plan.nil ?_
                        refine hK308 _ _ ?_; clear hK308
                        refine W.condF rfl ?_
                        refine W.exit (thenR_exit (iterR_exit (blockR_here ?_)))
                        exact ⟨mp297, left298, (hx302 _ hR).symm, left298.length, aleft298, pleft298, cleft298, Fleft298, (EnvHas.cons rfl (EnvHas.cons rfl (EnvHas.cons rfl EnvHas.nil))), h303, hleft298⟩
                    ·
                      rintro ev378 wl378 ⟨y_mp300, y_left301, hy378, n_left301, aleft301, pleft301, cleft301, Fleft301, he378, h378, hleft301⟩
                      obtain ⟨ev378, rfl⟩ := he378.open
                      replace hR := hR0302 y_mp300 y_left301 hy378
                      obtain ⟨mp300, e_mp300⟩ : ∃ z, z = y_mp300 := ⟨_, rfl⟩; subst e_mp300
                      obtain ⟨left301, e_left301⟩ : ∃ z, z = y_left301 := ⟨_, rfl⟩; subst e_left301
                      obtain rfl : List.length (α := Bool) left301 = n_left301 := hleft301.hl
                      refine hK174 _ _ ?_; clear hK174
                      refine W.seq_k fun K379 hK379 => ?_
                      refine W.regionT [(0, true), (1, false), (2, true)] (by kernel_rfl) ?_
                      refine Plan.move_ptr rfl rfl ?_
                      have h380 := St.pickT (C := [_, _, _, _]) h378 [1, 2, 0, 3] (by decide)
                      simp only [pick, List.filterMap_cons, List.filterMap_nil, List.getElem?_cons_zero, List.getElem?_cons_succ, List.cons_append, List.nil_append] at h380
                      obtain ⟨x_382, hr381, hR⟩ := hR
                      refine Plan.call (vs := [.pointer (some ⟨b0_20, 0, none⟩)]) rfl FSkipsOnce.call40 rfl (skips_Table_List_ok (w0 := w0) hr381 (show St B (w0.on [mapR kv2 D71 [] mw0_1_21 mp300]) _ _ from h380)) ?_
                      rintro _ w388 ⟨ay0_383, py0_384, ny0_385, cy0_386, Fy0_387, rfl, h388, hf388_0⟩
                      replace h388 : St B (w0.on [mapR kv2 D71 [] mw0_1_21 mp300]) _ _ := h388
                      obtain rfl := hf388_0.hl
                      refine ⟨_, rfl, .inl ⟨PIn.keep PIn.nil h388, ?_⟩⟩
                      refine Plan.assign_slice rfl rfl ?_
                      refine Plan.nil ?_
                      refine hK379 _ _ ?_; clear hK379
                      refine W.seq_k fun K389 hK389 => ?_
                      refine W.seq_k fun K390 hK390 => ?_
                      refine W.regionT [(0, true), (1, true), (2, true), (3, true), (4, true)] (by kernel_rfl) ?_
                      refine Plan.move_slice rfl rfl ?_
                      refine Plan.len FSkipsOnce.isl78 rfl rfl ?_
                      refine Plan.move_slice rfl rfl ?_
                      refine Plan.len FSkipsOnce.isl66 rfl rfl ?_
                      refine Plan.cmpP (a := (((x_382.length : Nat) : Int) : Int)) (b := ((((([(upd (fun _ => 0#8) 0 (1#8))] : List (Nat → BitVec 8)) ++ keys37).length : Nat) : Int) : Int)) (p := x_382.length < (([(upd (fun _ => 0#8) 0 (1#8))] : List (Nat → BitVec 8)) ++ keys37).length) rfl rfl rfl rfl icmp_ltN ?_
                      refine Plan.nil ?_
                      refine hK390 _ _ ?_; clear hK390
                      by_cases hc391 : x_382.length < (([(upd (fun _ => 0#8) 0 (1#8))] : List (Nat → BitVec 8)) ++ keys37).length
                      ·
                        replace hR := ifT hR hc391
                        refine W.condT (congrArg Value.bool (decide_eq_true hc391)) ?_
                        refine W.seq_k fun K392 hK392 => ?_
                        refine W.regionT [(0, true)] (by kernel_rfl) ?_
                        refine Plan.assign_bool rfl rfl ?_
                        refine Plan.nil ?_
                        refine hK392 _ _ ?_; clear hK392
                        refine W.ret (thenR_ret (finR_ret ?_))
                        have h393 := St.pickT (C := [_, _, _, _, _]) h388 [] (by decide)
                        simp only [pick, List.filterMap_cons, List.filterMap_nil, List.getElem?_cons_zero, List.getElem?_cons_succ, List.cons_append, List.nil_append] at h393
                        have h394 : St B w0 _ _ := St.mpick (N := [mapR kv2 D71 [] mw0_1_21 mp300]) (N' := []) h393 [] (by decide) rfl
                        subst r
                        refine RetOk.mk (.tmp_bool rfl .nil) ?_
                        exact ⟨rfl, h394⟩
                      ·
                        replace hR := ifF hR hc391
                        refine W.condF (congrArg Value.bool (decide_eq_false hc391)) ?_
                        refine W.skip ?_
                        refine hK389 _ _ ?_; clear hK389
                        refine W.seq_k fun K395 hK395 => ?_
                        refine W.seq_k fun K396 hK396 => ?_
                        refine W.regionT [(0, true)] (by kernel_rfl) ?_
                        refine Plan.assign_int rfl rfl ?_
                        refine Plan.nil ?_
                        refine hK396 _ _ ?_; clear hK396
                        obtain ⟨x424, hI424, hR0424⟩ := hR
                        refine W.cutN (fun e w => x424 = some () ∧ EnvHas e [(0, .slice a47 ((([(upd (fun _ => 0#8) 0 (1#8))] : List (Nat → BitVec 8)) ++ keys37).length) cap47), (5, .pointer (some ⟨b0_20, 0, none⟩)), (7, .slice aleft301 left301.length cleft301), (15, .slice ay0_383 x_382.length cy0_386)] ∧ St B (w0.on [mapR kv2 D71 [] mw0_1_21 mp300]) (⟨py0_384, 0, cy0_386 * 34, Fy0_387, true⟩ :: ⟨some b0_20, 0, 1, fun _ => .int .i64 x_7, true⟩ :: ⟨some b0_20, 1, 1, fun _ => .map (some mw0_1_21), true⟩ :: ⟨pleft301, 0, cleft301 * 1, Fleft301, true⟩ :: ⟨pb47, 0, cap47 * 32, F47, true⟩ :: L) w) ?_ ?_
                        ·
                          refine W.block ?_
                          refine W.iter hI424 (fun (s424 : Nat) e w => EnvHas e [(0, .slice a47 ((([(upd (fun _ => 0#8) 0 (1#8))] : List (Nat → BitVec 8)) ++ keys37).length) cap47), (5, .pointer (some ⟨b0_20, 0, none⟩)), (7, .slice aleft301 left301.length cleft301), (15, .slice ay0_383 x_382.length cy0_386), (16, VN s424)] ∧ St B (w0.on [mapR kv2 D71 [] mw0_1_21 mp300]) (⟨py0_384, 0, cy0_386 * 34, Fy0_387, true⟩ :: ⟨some b0_20, 0, 1, fun _ => .int .i64 x_7, true⟩ :: ⟨some b0_20, 1, 1, fun _ => .map (some mw0_1_21), true⟩ :: ⟨pleft301, 0, cleft301 * 1, Fleft301, true⟩ :: ⟨pb47, 0, cap47 * 32, F47, true⟩ :: L) w) ⟨(EnvHas.cons rfl (EnvHas.cons rfl (EnvHas.cons rfl (EnvHas.cons rfl (EnvHas.cons rfl EnvHas.nil))))), h388⟩ ?_
                          rintro i_423 o424 hR hx424 ev425 wl425 ⟨he425, h425⟩
                          obtain ⟨ev425, rfl⟩ := he425.open
                          unfold lethelaw15_SkipsOnce_l2 at hR
                          refine W.seq_k fun K426 hK426 => ?_
                          refine W.seq_k fun K427 hK427 => ?_
                          refine W.regionT [(0, true), (1, true), (2, true), (3, true)] (by kernel_rfl) ?_
                          refine Plan.move_int rfl rfl ?_
                          refine Plan.move_slice rfl rfl ?_
                          refine Plan.len FSkipsOnce.isl66 rfl rfl ?_
                          refine Plan.cmpP (a := (((i_423 : Nat) : Int) : Int)) (b := ((((([(upd (fun _ => 0#8) 0 (1#8))] : List (Nat → BitVec 8)) ++ keys37).length : Nat) : Int) : Int)) (p := i_423 < (([(upd (fun _ => 0#8) 0 (1#8))] : List (Nat → BitVec 8)) ++ keys37).length) rfl rfl rfl rfl icmp_ltN ?_
                          refine Plan.nil ?_
                          refine hK427 _ _ ?_; clear hK427
                          by_cases hc428 : i_423 < (([(upd (fun _ => 0#8) 0 (1#8))] : List (Nat → BitVec 8)) ++ keys37).length
                          ·
                            replace hR := ifT hR hc428
                            refine W.condT (congrArg Value.bool (decide_eq_true hc428)) ?_
                            refine W.skip ?_
                            refine hK426 _ _ ?_; clear hK426
                            refine W.seq_k fun K429 hK429 => ?_
                            refine W.block ?_
                            refine W.seq_k fun K430 hK430 => ?_
                            refine W.regionD FSkipsOnce.mixed [(0, true), (1, true), (2, true), (3, true), (4, true), (5, true), (6, true), (7, true), (8, true), (9, true), (10, true), (11, true), (12, true)] (by kernel_rfl) ?_
                            have h431 := h425.drew
                            refine Plan.move_slice rfl rfl ?_
                            refine Plan.move_int rfl rfl ?_
                            obtain ⟨hc432, hR⟩ := hR
                            refine Plan.idxLVS (D := D81) (j := i_423) h431 (LO.lvf D81_flat hf388_0 0 rfl) FSkipsOnce.sl78 rfl rfl rfl hc432 ?_
                            refine Plan.loadLV (D := D81) (X := x_382) (j := i_423) (sz := 34) h431 (0#32, 0#32, (fun _ => 0#8)) (LO.lvf D81_flat hf388_0 0 rfl) rfl rfl hc432 rfl FSkipsOnce.agg81 fun b433 r433 hs433 hr433 => ?_
                            refine Plan.move_int rfl rfl ?_
                            refine Plan.convNU .u32 (a := i_423) FSkipsOnce.u73 FSkipsOnce.some3 rfl rfl ?_
                            refine Plan.addU .u32 (X := 9#32) (Y := (BitVec.ofNat 32 i_423)) rfl rfl rfl ?_
                            refine Plan.move_slice rfl rfl ?_
                            refine Plan.move_int rfl rfl ?_
                            obtain ⟨hc434, hR⟩ := hR
                            refine Plan.idxLVS (D := D71) (j := i_423) h431 (LO.lvf D71_flat ho47 4 rfl) FSkipsOnce.sl66 rfl rfl rfl hc434 ?_
                            refine Plan.loadLV (D := D71) (X := (([(upd (fun _ => 0#8) 0 (1#8))] : List (Nat → BitVec 8)) ++ keys37)) (j := i_423) (sz := 32) h431 (fun _ => 0#8) (LO.lvf D71_flat ho47 4 rfl) rfl rfl hc434 rfl FSkipsOnce.agg71 fun b435 r435 hs435 hr435 => ?_
                            refine Plan.buildP (ps := [(1, fun _ => VU .u32 (2#32)), (1, fun _ => VU .u32 ((9#32) + (BitVec.ofNat 32 i_423))), (32, fun q => VU .u8 (((([(upd (fun _ => 0#8) 0 (1#8))] : List (Nat → BitVec 8)) ++ keys37).getD i_423 (fun _ => 0#8)) q))]) FSkipsOnce.pl81 (by decide) FSkipsOnce.z81 rfl rfl (.one [] [(1, fun _ => VU .u32 (0#32)), (32, fun q => VU .u8 ((fun _ => 0#8) q))] (fun _ => VU .u32 (0#32)) rfl rfl (.one [(1, fun _ => VU .u32 (2#32))] [(32, fun q => VU .u8 ((fun _ => 0#8) q))] (fun _ => VU .u32 (0#32)) rfl rfl (.agg [(1, fun _ => VU .u32 (2#32)), (1, fun _ => VU .u32 ((9#32) + (BitVec.ofNat 32 i_423)))] [(32, fun q => VU .u8 ((fun _ => 0#8) q))] [] [(32, fun q => VU .u8 (((([(upd (fun _ => 0#8) 0 (1#8))] : List (Nat → BitVec 8)) ++ keys37).getD i_423 (fun _ => 0#8)) q))] rfl rfl .nil))) ?_
                            refine Plan.neStrV' (c := ((decide ((x_382.getD i_423 (0#32, 0#32, (fun _ => 0#8))).1 = 2#32)) && ((decide ((x_382.getD i_423 (0#32, 0#32, (fun _ => 0#8))).2.1 = ((9#32) + (BitVec.ofNat 32 i_423)))) && ((eqB 32 ((x_382.getD i_423 (0#32, 0#32, (fun _ => 0#8))).2.2) ((([(upd (fun _ => 0#8) 0 (1#8))] : List (Nat → BitVec 8)) ++ keys37).getD i_423 (fun _ => 0#8))) && true)))) FSkipsOnce.eqg81 rfl rfl rfl (EqV.struct (d := 9999) (l := [(73, 0), (73, 1), (71, 2)]) FSkipsOnce.flds81 (.one [] [(1, fun _ => VU .u32 ((x_382.getD i_423 (0#32, 0#32, (fun _ => 0#8))).2.1)), (32, fun q => VU .u8 (((x_382.getD i_423 (0#32, 0#32, (fun _ => 0#8))).2.2) q))] [] [(1, fun _ => VU .u32 ((9#32) + (BitVec.ofNat 32 i_423))), (32, fun q => VU .u8 (((([(upd (fun _ => 0#8) 0 (1#8))] : List (Nat → BitVec 8)) ++ keys37).getD i_423 (fun _ => 0#8)) q))] (fun _ => VU .u32 ((x_382.getD i_423 (0#32, 0#32, (fun _ => 0#8))).1)) (fun _ => VU .u32 (2#32)) rfl rfl rfl rfl FSkipsOnce.sc73 rfl rfl (EqV.u (d := 9998) (a := ((x_382.getD i_423 (0#32, 0#32, (fun _ => 0#8))).1)) (b := (2#32)) FSkipsOnce.int73) (.one [(1, fun _ => VU .u32 ((x_382.getD i_423 (0#32, 0#32, (fun _ => 0#8))).1))] [(32, fun q => VU .u8 (((x_382.getD i_423 (0#32, 0#32, (fun _ => 0#8))).2.2) q))] [(1, fun _ => VU .u32 (2#32))] [(32, fun q => VU .u8 (((([(upd (fun _ => 0#8) 0 (1#8))] : List (Nat → BitVec 8)) ++ keys37).getD i_423 (fun _ => 0#8)) q))] (fun _ => VU .u32 ((x_382.getD i_423 (0#32, 0#32, (fun _ => 0#8))).2.1)) (fun _ => VU .u32 ((9#32) + (BitVec.ofNat 32 i_423))) rfl rfl rfl rfl FSkipsOnce.sc73 rfl rfl (EqV.u (d := 9998) (a := ((x_382.getD i_423 (0#32, 0#32, (fun _ => 0#8))).2.1)) (b := ((9#32) + (BitVec.ofNat 32 i_423))) FSkipsOnce.int73) (.agg [(1, fun _ => VU .u32 ((x_382.getD i_423 (0#32, 0#32, (fun _ => 0#8))).1)), (1, fun _ => VU .u32 ((x_382.getD i_423 (0#32, 0#32, (fun _ => 0#8))).2.1))] [(32, fun q => VU .u8 (((x_382.getD i_423 (0#32, 0#32, (fun _ => 0#8))).2.2) q))] [] [(1, fun _ => VU .u32 (2#32)), (1, fun _ => VU .u32 ((9#32) + (BitVec.ofNat 32 i_423)))] [(32, fun q => VU .u8 (((([(upd (fun _ => 0#8) 0 (1#8))] : List (Nat → BitVec 8)) ++ keys37).getD i_423 (fun _ => 0#8)) q))] [] rfl rfl rfl rfl FSkipsOnce.agg71 FSkipsOnce.agg71 (EqV.arr (d := 9997) (F := ((x_382.getD i_423 (0#32, 0#32, (fun _ => 0#8))).2.2)) (G := ((([(upd (fun _ => 0#8) 0 (1#8))] : List (Nat → BitVec 8)) ++ keys37).getD i_423 (fun _ => 0#8))) FSkipsOnce.arrI71) .nil)))) rfl ?_
                            refine Plan.nil ?_
                            refine hK430 _ _ ?_; clear hK430
                            by_cases hc436 : ((decide ((x_382.getD i_423 (0#32, 0#32, (fun _ => 0#8))).1 = 2#32)) && ((decide ((x_382.getD i_423 (0#32, 0#32, (fun _ => 0#8))).2.1 = ((9#32) + (BitVec.ofNat 32 i_423)))) && ((eqB 32 ((x_382.getD i_423 (0#32, 0#32, (fun _ => 0#8))).2.2) ((([(upd (fun _ => 0#8) 0 (1#8))] : List (Nat → BitVec 8)) ++ keys37).getD i_423 (fun _ => 0#8))) && true))) = true
                            ·
                              replace hR := ifT hR hc436
                              refine W.condF (congrArg Value.bool (congrArg Bool.not hc436)) ?_
                              refine W.skip ?_
                              refine blockR_norm ?_
                              refine hK429 _ _ ?_; clear hK429
                              refine W.regionT [(0, true), (1, true), (2, true)] (by kernel_rfl) ?_
                              refine Plan.move_int rfl rfl ?_
                              obtain ⟨hc437, hR⟩ := hR
                              refine Plan.addN (a := i_423) (b := 1) rfl rfl rfl (by omega) ?_
                              refine Plan.assign_int rfl rfl ?_
                              refine Plan.nil ?_
                              exact iterR_norm ⟨_, hR, (EnvHas.cons rfl (EnvHas.cons rfl (EnvHas.cons rfl (EnvHas.cons rfl (EnvHas.cons rfl EnvHas.nil))))), h431⟩
                            ·
                              replace hR := ifF hR hc436
                              refine W.condT (congrArg Value.bool (congrArg Bool.not (Bool.eq_false_iff.2 hc436))) ?_
                              refine W.seq_k fun K438 hK438 => ?_
                              refine W.regionT [(0, true)] (by kernel_rfl) ?_
                              refine Plan.assign_bool rfl rfl ?_
                              refine Plan.nil ?_
                              refine hK438 _ _ ?_; clear hK438
                              refine W.ret (blockR_ret (thenR_ret (iterR_ret (blockR_ret (thenR_ret (thenR_ret (finR_ret ?_)))))))
                              have h439 := St.pickT (C := [_, _, _, _, _]) h431 [] (by decide)
                              simp only [pick, List.filterMap_cons, List.filterMap_nil, List.getElem?_cons_zero, List.getElem?_cons_succ, List.cons_append, List.nil_append] at h439
                              have h440 : St B w0 _ _ := St.mpick (N := [mapR kv2 D71 [] mw0_1_21 mp300]) (N' := []) h439 [] (by decide) rfl
                              replace hR := hR.2
                              subst r
                              refine RetOk.mk (.tmp_bool rfl .nil) ?_
                              exact ⟨rfl, h440⟩
                          ·
                            replace hR := ifF hR hc428
                            refine W.condF (congrArg Value.bool (decide_eq_false hc428)) ?_
                            refine W.exit (thenR_exit (iterR_exit (blockR_here ?_)))
                            exact ⟨(hx424 _ hR).symm, (EnvHas.cons rfl (EnvHas.cons rfl (EnvHas.cons rfl (EnvHas.cons rfl EnvHas.nil)))), h425⟩
                        ·
                          rintro ev441 wl441 ⟨hy441, he441, h441⟩
                          obtain ⟨ev441, rfl⟩ := he441.open
                          replace hR := hR0424  hy441
                          refine hK395 _ _ ?_; clear hK395
                          refine W.seq_k fun K442 hK442 => ?_
                          refine W.regionT [(0, true), (1, true), (2, true)] (by kernel_rfl) ?_
                          refine Plan.move_slice rfl rfl ?_
                          refine Plan.len FSkipsOnce.isl66 rfl rfl ?_
                          refine Plan.assign_int rfl rfl ?_
                          refine Plan.nil ?_
                          refine hK442 _ _ ?_; clear hK442
                          refine W.seq_k fun K443 hK443 => ?_
                          refine W.seq_k fun K444 hK444 => ?_
                          refine W.regionT [(0, true)] (by kernel_rfl) ?_
                          refine Plan.assign_int rfl rfl ?_
                          refine Plan.nil ?_
                          refine hK444 _ _ ?_; clear hK444
                          obtain ⟨x494, hI494, hR0494⟩ := hR
                          refine W.cutN (fun e w => ∃ y_n_493 : Nat, x494 = some y_n_493 ∧ EnvHas e [(5, .pointer (some ⟨b0_20, 0, none⟩)), (15, .slice ay0_383 x_382.length cy0_386), (17, VN y_n_493)] ∧ St B (w0.on [mapR kv2 D71 [] mw0_1_21 mp300]) (⟨py0_384, 0, cy0_386 * 34, Fy0_387, true⟩ :: ⟨some b0_20, 0, 1, fun _ => .int .i64 x_7, true⟩ :: ⟨some b0_20, 1, 1, fun _ => .map (some mw0_1_21), true⟩ :: L) w) ?_ ?_
                          ·
                            refine W.block ?_
                            refine W.iter hI494 (fun (s494 : (Nat × Nat)) e w => EnvHas e [(0, .slice a47 ((([(upd (fun _ => 0#8) 0 (1#8))] : List (Nat → BitVec 8)) ++ keys37).length) cap47), (5, .pointer (some ⟨b0_20, 0, none⟩)), (7, .slice aleft301 left301.length cleft301), (15, .slice ay0_383 x_382.length cy0_386), (17, VN s494.1), (18, VN s494.2)] ∧ St B (w0.on [mapR kv2 D71 [] mw0_1_21 mp300]) (⟨py0_384, 0, cy0_386 * 34, Fy0_387, true⟩ :: ⟨some b0_20, 0, 1, fun _ => .int .i64 x_7, true⟩ :: ⟨some b0_20, 1, 1, fun _ => .map (some mw0_1_21), true⟩ :: ⟨pleft301, 0, cleft301 * 1, Fleft301, true⟩ :: ⟨pb47, 0, cap47 * 32, F47, true⟩ :: L) w) ⟨(EnvHas.cons rfl (EnvHas.cons rfl (EnvHas.cons rfl (EnvHas.cons rfl (EnvHas.cons rfl (EnvHas.cons rfl EnvHas.nil)))))), h441⟩ ?_
                            rintro ⟨n_491, i_492⟩ o494 hR hx494 ev495 wl495 ⟨he495, h495⟩
                            obtain ⟨ev495, rfl⟩ := he495.open
                            unfold lethelaw15_SkipsOnce_l3 at hR
                            refine W.seq_k fun K496 hK496 => ?_
                            refine W.seq_k fun K497 hK497 => ?_
                            refine W.regionT [(0, true), (1, true), (2, true), (3, true)] (by kernel_rfl) ?_
                            refine Plan.move_int rfl rfl ?_
                            refine Plan.move_slice rfl rfl ?_
                            refine Plan.len FSkipsOnce.isl66 rfl rfl ?_
                            refine Plan.cmpP (a := (((i_492 : Nat) : Int) : Int)) (b := ((((([(upd (fun _ => 0#8) 0 (1#8))] : List (Nat → BitVec 8)) ++ keys37).length : Nat) : Int) : Int)) (p := i_492 < (([(upd (fun _ => 0#8) 0 (1#8))] : List (Nat → BitVec 8)) ++ keys37).length) rfl rfl rfl rfl icmp_ltN ?_
                            refine Plan.nil ?_
                            refine hK497 _ _ ?_; clear hK497
                            by_cases hc498 : i_492 < (([(upd (fun _ => 0#8) 0 (1#8))] : List (Nat → BitVec 8)) ++ keys37).length
                            ·
                              replace hR := ifT hR hc498
                              refine W.condT (congrArg Value.bool (decide_eq_true hc498)) ?_
                              refine W.skip ?_
                              refine hK496 _ _ ?_; clear hK496
                              refine W.seq_k fun K499 hK499 => ?_
                              refine W.block ?_
                              refine W.seq_k fun K500 hK500 => ?_
                              refine W.seq_k fun K501 hK501 => ?_
                              refine W.regionT [(0, true), (1, true), (2, true), (3, true), (4, true)] (by kernel_rfl) ?_
                              refine Plan.move_slice rfl rfl ?_
                              refine Plan.move_int rfl rfl ?_
                              obtain ⟨hc502, hR⟩ := hR
                              refine Plan.idxLVS (D := D4) (j := i_492) h495 (LO.lvf D4_flat hleft301 3 rfl) FSkipsOnce.sl75 rfl rfl rfl hc502 ?_
                              refine Plan.loadLV1 (D := D4) (X := left301) (j := i_492) h495 false (fun _ x => .bool x) (LO.lvf D4_flat hleft301 3 rfl) rfl rfl hc502 rfl (fun _ _ => rfl) FSkipsOnce.sc4 fun b503 r503 hs503 hr503 => ?_
                              refine Plan.not rfl rfl ?_
                              refine Plan.nil ?_
                              refine hK501 _ _ ?_; clear hK501
                              by_cases hc504 : (left301.getD i_492 false) = true
                              ·
                                replace hR := ifT hR hc504
                                refine W.condF (congrArg Value.bool (congrArg Bool.not hc504)) ?_
                                refine W.skip ?_
                                refine hK500 _ _ ?_; clear hK500
                                refine W.seq_k fun K505 hK505 => ?_
                                refine W.seq_k fun K506 hK506 => ?_
                                refine W.regionD FSkipsOnce.mixed [(0, true), (1, true), (2, true), (3, true), (4, true), (5, true), (6, true), (7, true), (8, true), (9, true), (10, true), (11, true), (12, true), (13, true), (14, true), (15, true), (16, true), (17, true), (18, true)] (by kernel_rfl) ?_
                                have h507 := h495.drew
                                refine Plan.move_int rfl rfl ?_
                                refine Plan.move_slice rfl rfl ?_
                                refine Plan.len FSkipsOnce.isl78 rfl rfl ?_
                                by_cases hc508 : x_382.length ≤ n_491
                                ·
                                  replace hR := ifT hR hc508
                                  refine Plan.cmpV (a := (((n_491 : Nat) : Int) : Int)) (b := (((x_382.length : Nat) : Int) : Int)) (p := x_382.length ≤ n_491) (v := true) rfl rfl rfl rfl icmp_geN (decide_eq_true hc508) ?_
                                  refine Plan.move_bool rfl rfl ?_
                                  refine Plan.passed rfl ?_
                                  refine Plan.passed rfl ?_
                                  refine Plan.passed rfl ?_
                                  refine Plan.passed rfl ?_
                                  refine Plan.passed rfl ?_
                                  refine Plan.passed rfl ?_
                                  refine Plan.passed rfl ?_
                                  refine Plan.passed rfl ?_
                                  refine Plan.passed rfl ?_
                                  refine Plan.passed rfl ?_
                                  refine Plan.passed rfl ?_
                                  refine Plan.passed rfl ?_
                                  refine Plan.passed rfl ?_
                                  refine Plan.pickTb rfl rfl rfl ?_
                                  refine Plan.nil ?_
                                  refine hK506 _ _ ?_; clear hK506
                                  refine W.condT rfl ?_
                                  refine W.seq_k fun K509 hK509 => ?_
                                  refine W.regionT [(0, true)] (by kernel_rfl) ?_
                                  refine Plan.assign_bool rfl rfl ?_
                                  refine Plan.nil ?_
                                  refine hK509 _ _ ?_; clear hK509
                                  refine W.ret (thenR_ret (blockR_ret (thenR_ret (iterR_ret (blockR_ret (thenR_ret (thenR_ret (finR_ret ?_))))))))
                                  have h510 := St.pickT (C := [_, _, _, _, _]) h507 [] (by decide)
                                  simp only [pick, List.filterMap_cons, List.filterMap_nil, List.getElem?_cons_zero, List.getElem?_cons_succ, List.cons_append, List.nil_append] at h510
                                  have h511 : St B w0 _ _ := St.mpick (N := [mapR kv2 D71 [] mw0_1_21 mp300]) (N' := []) h510 [] (by decide) rfl
                                  replace hR := hR.2
                                  subst r
                                  refine RetOk.mk (.tmp_bool rfl .nil) ?_
                                  exact ⟨rfl, h511⟩
                                ·
                                  replace hR := ifF hR hc508
                                  refine Plan.cmpV (a := (((n_491 : Nat) : Int) : Int)) (b := (((x_382.length : Nat) : Int) : Int)) (p := x_382.length ≤ n_491) (v := false) rfl rfl rfl rfl icmp_geN (decide_eq_false hc508) ?_
                                  refine Plan.move_bool rfl rfl ?_
                                  refine Plan.move_slice rfl rfl ?_
                                  refine Plan.move_int rfl rfl ?_
                                  obtain ⟨hc512, hR⟩ := hR
                                  refine Plan.idxLVS (D := D81) (j := n_491) h507 (LO.lvf D81_flat hf388_0 0 rfl) FSkipsOnce.sl78 rfl rfl rfl hc512 ?_
                                  refine Plan.loadLV (D := D81) (X := x_382) (j := n_491) (sz := 34) h507 (0#32, 0#32, (fun _ => 0#8)) (LO.lvf D81_flat hf388_0 0 rfl) rfl rfl hc512 rfl FSkipsOnce.agg81 fun b513 r513 hs513 hr513 => ?_
                                  refine Plan.move_int rfl rfl ?_
                                  refine Plan.convNU .u32 (a := i_492) FSkipsOnce.u73 FSkipsOnce.some3 rfl rfl ?_
                                  refine Plan.addU .u32 (X := 7#32) (Y := (BitVec.ofNat 32 i_492)) rfl rfl rfl ?_
                                  refine Plan.move_slice rfl rfl ?_
                                  refine Plan.move_int rfl rfl ?_
                                  obtain ⟨hc514, hR⟩ := hR
                                  refine Plan.idxLVS (D := D71) (j := i_492) h507 (LO.lvf D71_flat ho47 4 rfl) FSkipsOnce.sl66 rfl rfl rfl hc514 ?_
                                  refine Plan.loadLV (D := D71) (X := (([(upd (fun _ => 0#8) 0 (1#8))] : List (Nat → BitVec 8)) ++ keys37)) (j := i_492) (sz := 32) h507 (fun _ => 0#8) (LO.lvf D71_flat ho47 4 rfl) rfl rfl hc514 rfl FSkipsOnce.agg71 fun b515 r515 hs515 hr515 => ?_
                                  refine Plan.buildP (ps := [(1, fun _ => VU .u32 (3#32)), (1, fun _ => VU .u32 ((7#32) + (BitVec.ofNat 32 i_492))), (32, fun q => VU .u8 (((([(upd (fun _ => 0#8) 0 (1#8))] : List (Nat → BitVec 8)) ++ keys37).getD i_492 (fun _ => 0#8)) q))]) FSkipsOnce.pl81 (by decide) FSkipsOnce.z81 rfl rfl (.one [] [(1, fun _ => VU .u32 (0#32)), (32, fun q => VU .u8 ((fun _ => 0#8) q))] (fun _ => VU .u32 (0#32)) rfl rfl (.one [(1, fun _ => VU .u32 (3#32))] [(32, fun q => VU .u8 ((fun _ => 0#8) q))] (fun _ => VU .u32 (0#32)) rfl rfl (.agg [(1, fun _ => VU .u32 (3#32)), (1, fun _ => VU .u32 ((7#32) + (BitVec.ofNat 32 i_492)))] [(32, fun q => VU .u8 ((fun _ => 0#8) q))] [] [(32, fun q => VU .u8 (((([(upd (fun _ => 0#8) 0 (1#8))] : List (Nat → BitVec 8)) ++ keys37).getD i_492 (fun _ => 0#8)) q))] rfl rfl .nil))) ?_
                                  refine Plan.neStrV' (c := ((decide ((x_382.getD n_491 (0#32, 0#32, (fun _ => 0#8))).1 = 3#32)) && ((decide ((x_382.getD n_491 (0#32, 0#32, (fun _ => 0#8))).2.1 = ((7#32) + (BitVec.ofNat 32 i_492)))) && ((eqB 32 ((x_382.getD n_491 (0#32, 0#32, (fun _ => 0#8))).2.2) ((([(upd (fun _ => 0#8) 0 (1#8))] : List (Nat → BitVec 8)) ++ keys37).getD i_492 (fun _ => 0#8))) && true)))) FSkipsOnce.eqg81 rfl rfl rfl (EqV.struct (d := 9999) (l := [(73, 0), (73, 1), (71, 2)]) FSkipsOnce.flds81 (.one [] [(1, fun _ => VU .u32 ((x_382.getD n_491 (0#32, 0#32, (fun _ => 0#8))).2.1)), (32, fun q => VU .u8 (((x_382.getD n_491 (0#32, 0#32, (fun _ => 0#8))).2.2) q))] [] [(1, fun _ => VU .u32 ((7#32) + (BitVec.ofNat 32 i_492))), (32, fun q => VU .u8 (((([(upd (fun _ => 0#8) 0 (1#8))] : List (Nat → BitVec 8)) ++ keys37).getD i_492 (fun _ => 0#8)) q))] (fun _ => VU .u32 ((x_382.getD n_491 (0#32, 0#32, (fun _ => 0#8))).1)) (fun _ => VU .u32 (3#32)) rfl rfl rfl rfl FSkipsOnce.sc73 rfl rfl (EqV.u (d := 9998) (a := ((x_382.getD n_491 (0#32, 0#32, (fun _ => 0#8))).1)) (b := (3#32)) FSkipsOnce.int73) (.one [(1, fun _ => VU .u32 ((x_382.getD n_491 (0#32, 0#32, (fun _ => 0#8))).1))] [(32, fun q => VU .u8 (((x_382.getD n_491 (0#32, 0#32, (fun _ => 0#8))).2.2) q))] [(1, fun _ => VU .u32 (3#32))] [(32, fun q => VU .u8 (((([(upd (fun _ => 0#8) 0 (1#8))] : List (Nat → BitVec 8)) ++ keys37).getD i_492 (fun _ => 0#8)) q))] (fun _ => VU .u32 ((x_382.getD n_491 (0#32, 0#32, (fun _ => 0#8))).2.1)) (fun _ => VU .u32 ((7#32) + (BitVec.ofNat 32 i_492))) rfl rfl rfl rfl FSkipsOnce.sc73 rfl rfl (EqV.u (d := 9998) (a := ((x_382.getD n_491 (0#32, 0#32, (fun _ => 0#8))).2.1)) (b := ((7#32) + (BitVec.ofNat 32 i_492))) FSkipsOnce.int73) (.agg [(1, fun _ => VU .u32 ((x_382.getD n_491 (0#32, 0#32, (fun _ => 0#8))).1)), (1, fun _ => VU .u32 ((x_382.getD n_491 (0#32, 0#32, (fun _ => 0#8))).2.1))] [(32, fun q => VU .u8 (((x_382.getD n_491 (0#32, 0#32, (fun _ => 0#8))).2.2) q))] [] [(1, fun _ => VU .u32 (3#32)), (1, fun _ => VU .u32 ((7#32) + (BitVec.ofNat 32 i_492)))] [(32, fun q => VU .u8 (((([(upd (fun _ => 0#8) 0 (1#8))] : List (Nat → BitVec 8)) ++ keys37).getD i_492 (fun _ => 0#8)) q))] [] rfl rfl rfl rfl FSkipsOnce.agg71 FSkipsOnce.agg71 (EqV.arr (d := 9997) (F := ((x_382.getD n_491 (0#32, 0#32, (fun _ => 0#8))).2.2)) (G := ((([(upd (fun _ => 0#8) 0 (1#8))] : List (Nat → BitVec 8)) ++ keys37).getD i_492 (fun _ => 0#8))) FSkipsOnce.arrI71) .nil)))) rfl ?_
                                  refine Plan.pickFb rfl rfl rfl ?_
                                  refine Plan.nil ?_
                                  refine hK506 _ _ ?_; clear hK506
                                  by_cases hc516 : ((decide ((x_382.getD n_491 (0#32, 0#32, (fun _ => 0#8))).1 = 3#32)) && ((decide ((x_382.getD n_491 (0#32, 0#32, (fun _ => 0#8))).2.1 = ((7#32) + (BitVec.ofNat 32 i_492)))) && ((eqB 32 ((x_382.getD n_491 (0#32, 0#32, (fun _ => 0#8))).2.2) ((([(upd (fun _ => 0#8) 0 (1#8))] : List (Nat → BitVec 8)) ++ keys37).getD i_492 (fun _ => 0#8))) && true))) = true
                                  ·
                                    replace hR := ifT hR hc516
                                    refine W.condF (congrArg Value.bool (congrArg Bool.not hc516)) ?_
                                    refine W.skip ?_
                                    refine hK505 _ _ ?_; clear hK505
                                    refine W.regionT [(0, true), (1, true), (2, true)] (by kernel_rfl) ?_
                                    refine Plan.move_int rfl rfl ?_
                                    obtain ⟨hc517, hR⟩ := hR
                                    refine Plan.addN (a := n_491) (b := 1) rfl rfl rfl (by omega) ?_
                                    refine Plan.assign_int rfl rfl ?_
                                    refine Plan.nil ?_
                                    refine blockR_norm ?_
                                    refine hK499 _ _ ?_; clear hK499
                                    refine W.regionT [(0, true), (1, true), (2, true)] (by kernel_rfl) ?_
                                    refine Plan.move_int rfl rfl ?_
                                    obtain ⟨hc518, hR⟩ := hR
                                    refine Plan.addN (a := i_492) (b := 1) rfl rfl rfl (by omega) ?_
                                    refine Plan.assign_int rfl rfl ?_
                                    refine Plan.nil ?_
                                    exact iterR_norm ⟨_, hR, (EnvHas.cons rfl (EnvHas.cons rfl (EnvHas.cons rfl (EnvHas.cons rfl (EnvHas.cons rfl (EnvHas.cons rfl EnvHas.nil)))))), h507⟩
                                  ·
                                    replace hR := ifF hR hc516
                                    refine W.condT (congrArg Value.bool (congrArg Bool.not (Bool.eq_false_iff.2 hc516))) ?_
                                    refine W.seq_k fun K519 hK519 => ?_
                                    refine W.regionT [(0, true)] (by kernel_rfl) ?_
                                    refine Plan.assign_bool rfl rfl ?_
                                    refine Plan.nil ?_
                                    refine hK519 _ _ ?_; clear hK519
                                    refine W.ret (thenR_ret (blockR_ret (thenR_ret (iterR_ret (blockR_ret (thenR_ret (thenR_ret (finR_ret ?_))))))))
                                    have h520 := St.pickT (C := [_, _, _, _, _]) h507 [] (by decide)
                                    simp only [pick, List.filterMap_cons, List.filterMap_nil, List.getElem?_cons_zero, List.getElem?_cons_succ, List.cons_append, List.nil_append] at h520
                                    have h521 : St B w0 _ _ := St.mpick (N := [mapR kv2 D71 [] mw0_1_21 mp300]) (N' := []) h520 [] (by decide) rfl
                                    replace hR := hR.2
                                    subst r
                                    refine RetOk.mk (.tmp_bool rfl .nil) ?_
                                    exact ⟨rfl, h521⟩
                              ·
                                replace hR := ifF hR hc504
                                refine W.condT (congrArg Value.bool (congrArg Bool.not (Bool.eq_false_iff.2 hc504))) ?_
                                refine W.exit (thenR_exit (blockR_here ?_))
                                refine hK499 _ _ ?_; clear hK499
                                refine W.regionT [(0, true), (1, true), (2, true)] (by kernel_rfl) ?_
                                refine Plan.move_int rfl rfl ?_
                                obtain ⟨hc522, hR⟩ := hR
                                refine Plan.addN (a := i_492) (b := 1) rfl rfl rfl (by omega) ?_
                                refine Plan.assign_int rfl rfl ?_
                                refine Plan.nil ?_
                                exact iterR_norm ⟨_, hR, (EnvHas.cons rfl (EnvHas.cons rfl (EnvHas.cons rfl (EnvHas.cons rfl (EnvHas.cons rfl (EnvHas.cons rfl EnvHas.nil)))))), h495⟩
                            ·
                              replace hR := ifF hR hc498
                              refine W.condF (congrArg Value.bool (decide_eq_false hc498)) ?_
                              refine W.exit (thenR_exit (iterR_exit (blockR_here ?_)))
                              have h523 := St.pickT (C := [_, _, _, _, _]) h495 [0, 1, 2] (by decide)
                              simp only [pick, List.filterMap_cons, List.filterMap_nil, List.getElem?_cons_zero, List.getElem?_cons_succ, List.cons_append, List.nil_append] at h523
                              exact ⟨n_491, (hx494 _ hR).symm, (EnvHas.cons rfl (EnvHas.cons rfl (EnvHas.cons rfl EnvHas.nil))), h523⟩
                          ·
                            rintro ev524 wl524 ⟨y_n_493, hy524, he524, h524⟩
                            obtain ⟨ev524, rfl⟩ := he524.open
                            replace hR := hR0494 y_n_493 hy524
                            obtain ⟨n_493, e_n_493⟩ : ∃ z, z = y_n_493 := ⟨_, rfl⟩; subst e_n_493
                            refine hK443 _ _ ?_; clear hK443
                            refine W.seq_k fun K525 hK525 => ?_
                            refine W.regionT [(0, true), (1, true), (2, true), (3, true), (4, true), (5, true), (6, false), (7, true), (8, true), (9, true), (10, true)] (by kernel_rfl) ?_
                            refine Plan.move_int rfl rfl ?_
                            refine Plan.move_slice rfl rfl ?_
                            refine Plan.len FSkipsOnce.isl78 rfl rfl ?_
                            by_cases hc526 : n_493 = x_382.length
                            ·
                              replace hR := ifT hR hc526
                              refine Plan.cmpV (a := (((n_493 : Nat) : Int) : Int)) (b := (((x_382.length : Nat) : Int) : Int)) (p := n_493 = x_382.length) (v := true) rfl rfl rfl rfl icmp_eqN (decide_eq_true hc526) ?_
                              refine Plan.move_bool rfl rfl ?_
                              refine Plan.move_ptr rfl rfl ?_
                              have h527 := St.pickT (C := [_, _, _]) h524 [1, 2, 0] (by decide)
                              simp only [pick, List.filterMap_cons, List.filterMap_nil, List.getElem?_cons_zero, List.getElem?_cons_succ, List.cons_append, List.nil_append] at h527
                              obtain ⟨x_529, hr528, hR⟩ := hR
                              refine Plan.call (vs := [.pointer (some ⟨b0_20, 0, none⟩)]) rfl FSkipsOnce.call37 rfl (skips_Table_Len_ok (w0 := w0) hr528 (show St B (w0.on [mapR kv2 D71 [] mw0_1_21 mp300]) _ _ from h527)) ?_
                              rintro _ w530 ⟨rfl, h530⟩
                              replace h530 : St B (w0.on [mapR kv2 D71 [] mw0_1_21 mp300]) _ _ := h530
                              refine ⟨_, rfl, .inl ⟨PIn.keep PIn.nil h530, ?_⟩⟩
                              refine Plan.move_int rfl rfl ?_
                              refine Plan.cmpP (a := (((x_529 : Nat) : Int) : Int)) (b := (((n_493 : Nat) : Int) : Int)) (p := x_529 = n_493) rfl rfl rfl rfl icmp_eqN ?_
                              refine Plan.pickTb rfl rfl rfl ?_
                              refine Plan.assign_bool rfl rfl ?_
                              refine Plan.nil ?_
                              refine hK525 _ _ ?_; clear hK525
                              refine W.ret (finR_ret ?_)
                              have h531 := St.pickT (C := [_, _, _]) h530 [] (by decide)
                              simp only [pick, List.filterMap_cons, List.filterMap_nil, List.getElem?_cons_zero, List.getElem?_cons_succ, List.cons_append, List.nil_append] at h531
                              have h532 : St B w0 _ _ := St.mpick (N := [mapR kv2 D71 [] mw0_1_21 mp300]) (N' := []) h531 [] (by decide) rfl
                              subst r
                              refine RetOk.mk (.tmp_bool rfl .nil) ?_
                              exact ⟨rfl, h532⟩
                            ·
                              replace hR := ifF hR hc526
                              refine Plan.cmpV (a := (((n_493 : Nat) : Int) : Int)) (b := (((x_382.length : Nat) : Int) : Int)) (p := n_493 = x_382.length) (v := false) rfl rfl rfl rfl icmp_eqN (decide_eq_false hc526) ?_
                              refine Plan.move_bool rfl rfl ?_
                              refine Plan.passed rfl ?_
                              refine Plan.passed rfl ?_
                              refine Plan.passed rfl ?_
                              refine Plan.passed rfl ?_
                              refine Plan.pickFb rfl rfl rfl ?_
                              refine Plan.assign_bool rfl rfl ?_
                              refine Plan.nil ?_
                              refine hK525 _ _ ?_; clear hK525
                              refine W.ret (finR_ret ?_)
                              have h533 := St.pickT (C := [_, _, _]) h524 [] (by decide)
                              simp only [pick, List.filterMap_cons, List.filterMap_nil, List.getElem?_cons_zero, List.getElem?_cons_succ, List.cons_append, List.nil_append] at h533
                              have h534 : St B w0 _ _ := St.mpick (N := [mapR kv2 D71 [] mw0_1_21 mp300]) (N' := []) h533 [] (by decide) rfl
                              subst r
                              refine RetOk.mk (.tmp_bool rfl .nil) ?_
                              exact ⟨rfl, h534⟩

end Go.Proofs.Ytbkgblhmlenocaa
