/-
  WALKS of the package's functions, printed by this session's own program (auto.py).
-/
import Derived.Test.YtbkgblhmlenocaaProg
import Derived.Test.YtbkgblhmlenocaaEd
import Derived.Test.YtbkgblhmlenocaaRSkipsExact
import Derived.Test.YtbkgblhmlenocaaEls
import Derived.Test.YtbkgblhmlenocaaWLaw15
import Derived.Test.YtbkgblhmlenocaaWRef15
import Derived.Test.YtbkgblhmlenocaaWSkips
namespace Go.Proofs.Ytbkgblhmlenocaa
set_option linter.unusedSimpArgs false
set_option linter.unusedVariables false
set_option linter.unusedSectionVars false
open Go Go.LW
theorem FSkipsExact.call35 : callB Try.prog 35 = true := by kernel_rfl
theorem FSkipsExact.call51 : callB Try.prog 51 = true := by kernel_rfl
theorem FSkipsExact.ptr67 : ptrB Try.prog 67 = true := by kernel_rfl
theorem FSkipsExact.ptr103 : ptrB Try.prog 103 = true := by kernel_rfl
theorem FSkipsExact.bool4 : boolB Try.prog 4 = true := by kernel_rfl
theorem FSkipsExact.pl81 : placesB Try.prog 81 [(0, 1), (1, 1), (2, 32)] = true := by kernel_rfl
theorem FSkipsExact.z81 : zeroIs Try.prog 81 [(1, fun _ => VU .u32 0#32), (1, fun _ => VU .u32 0#32), (32, fun _ => VU .u8 0#8)] := zeroIs_agg (by kernel_rfl)
theorem FSkipsExact.sz81 : szT Try.prog 81 34 = true := by kernel_rfl
theorem FSkipsExact.mixed : Try.prog.follows .mixedOrders = true := by kernel_rfl
theorem FSkipsExact.agg81 : aggT Try.prog 81 34 = true := by kernel_rfl
theorem FSkipsExact.slu78 : Try.prog.underlying 78 = some (.slice 81) := by kernel_rfl
theorem FSkipsExact.el78 : elD Try.prog 78 = some (34, 40, some (AG [(1, fun _ => VU .u32 0#32), (1, fun _ => VU .u32 0#32), (32, fun _ => VU .u8 0#8)])) := by kernel_rfl
theorem FSkipsExact.zv81 : (Try.prog.info? 81).bind (·.zero) = some (AG [(1, fun _ => VU .u32 0#32), (1, fun _ => VU .u32 0#32), (32, fun _ => VU .u8 0#8)]) := by kernel_rfl
theorem FSkipsExact.isl78 : ∃ el, Try.prog.underlying 78 = some (.slice el) := ⟨81, by kernel_rfl⟩
theorem FSkipsExact.sl78 : slB Try.prog 78 34 = true := by kernel_rfl
theorem FSkipsExact.sc73 : scalarT Try.prog 73 = true := by kernel_rfl
theorem FSkipsExact.agg71 : aggT Try.prog 71 32 = true := by kernel_rfl
theorem FSkipsExact.sc3 : scalarT Try.prog 3 = true := by kernel_rfl
theorem FSkipsExact.call52 : callB Try.prog 52 = true := by kernel_rfl
theorem FSkipsExact.fld152_0 : fieldB Try.prog 152 0 0 = true := by kernel_rfl
theorem FSkipsExact.sc78 : scalarT Try.prog 78 = true := by kernel_rfl
theorem FSkipsExact.call53 : callB Try.prog 53 = true := by kernel_rfl
theorem FSkipsExact.int73 : intT Try.prog 73 .u32 = true := by kernel_rfl
theorem FSkipsExact.arrI71 : arrIB Try.prog 71 32 .u8 = true := by kernel_rfl
theorem FSkipsExact.flds81 : fieldsB Try.prog 81 [(73, 0), (73, 1), (71, 2)] = true := by kernel_rfl
theorem FSkipsExact.eqg81 : Try.prog.eqGuardType Try.prog.depth 81 = false := by kernel_rfl
theorem FSkipsExact.call50 : callB Try.prog 50 = true := by kernel_rfl
theorem FSkipsExact.pl110 : placesB Try.prog 110 [(0, 1), (1, 1)] = true := by kernel_rfl
theorem FSkipsExact.z110 : zeroIs Try.prog 110 [(1, fun _ => .pointer none), (1, fun _ => .pointer none)] := zeroIs_agg (by kernel_rfl)
theorem FSkipsExact.isl102 : ∃ el, Try.prog.underlying 102 = some (.slice el) := ⟨113, by kernel_rfl⟩
theorem FSkipsExact.sl102 : slB Try.prog 102 4 = true := by kernel_rfl
theorem FSkipsExact.agg113 : aggT Try.prog 113 4 = true := by kernel_rfl
theorem FSkipsExact.fld113_0 : fieldB Try.prog 113 0 0 = true := by kernel_rfl
theorem FSkipsExact.slu66 : Try.prog.underlying 66 = some (.slice 71) := by kernel_rfl
theorem FSkipsExact.sz71 : szT Try.prog 71 32 = true := by kernel_rfl
theorem FSkipsExact.fld113_3 : fieldB Try.prog 113 3 3 = true := by kernel_rfl
theorem FSkipsExact.sc66 : scalarT Try.prog 66 = true := by kernel_rfl
theorem FSkipsExact.el66 : elD Try.prog 66 = some (32, 32, some (AG [(32, fun _ => VU .u8 0#8)])) := by kernel_rfl
theorem FSkipsExact.arr71 : arrB Try.prog 71 32 1 = true := by kernel_rfl
theorem FSkipsExact.z71 : zeroIs Try.prog 71 [(32, fun _ => VU .u8 0#8)] := zeroIs_agg (by kernel_rfl)
theorem FSkipsExact.zv71 : (Try.prog.info? 71).bind (·.zero) = some (AG [(32, fun _ => VU .u8 0#8)]) := by kernel_rfl
theorem FSkipsExact.isl66 : ∃ el, Try.prog.underlying 66 = some (.slice el) := ⟨71, by kernel_rfl⟩
theorem FSkipsExact.sl66 : slB Try.prog 66 32 = true := by kernel_rfl
theorem FSkipsExact.fld110_0 : fieldB Try.prog 110 0 0 = true := by kernel_rfl
theorem FSkipsExact.sc67 : scalarT Try.prog 67 = true := by kernel_rfl
theorem FSkipsExact.fld113_1 : fieldB Try.prog 113 1 1 = true := by kernel_rfl
theorem FSkipsExact.fld113_2 : fieldB Try.prog 113 2 2 = true := by kernel_rfl
theorem FSkipsExact.call36 : callB Try.prog 36 = true := by kernel_rfl
theorem FSkipsExact.fld110_1 : fieldB Try.prog 110 1 1 = true := by kernel_rfl
theorem FSkipsExact.sc103 : scalarT Try.prog 103 = true := by kernel_rfl
theorem FSkipsExact.call79 : callB Try.prog 79 = true := by kernel_rfl
theorem FSkipsExact.call80 : callB Try.prog 80 = true := by kernel_rfl
theorem FSkipsExact.call38 : callB Try.prog 38 = true := by kernel_rfl
theorem FSkipsExact.call81 : callB Try.prog 81 = true := by kernel_rfl
theorem FSkipsExact.call39 : callB Try.prog 39 = true := by kernel_rfl
theorem FSkipsExact.call82 : callB Try.prog 82 = true := by kernel_rfl
theorem FSkipsExact.call37 : callB Try.prog 37 = true := by kernel_rfl
theorem FSkipsExact.call40 : callB Try.prog 40 = true := by kernel_rfl
theorem FSkipsExact.call49 : callB Try.prog 49 = true := by kernel_rfl
theorem FSkipsExact.sz67 : szT Try.prog 67 1 = true := by kernel_rfl
theorem FSkipsExact.call54 : callB Try.prog 54 = true := by kernel_rfl
theorem FSkipsExact.pl113 : placesB Try.prog 113 [(0, 1), (1, 1), (2, 1), (3, 1)] = true := by kernel_rfl
theorem FSkipsExact.z113 : zeroIs Try.prog 113 [(1, fun _ => .int .i64 0), (1, fun _ => VU .u32 0#32), (1, fun _ => VU .u32 0#32), (1, fun _ => .slice none 0 0)] := zeroIs_agg (by kernel_rfl)

set_option maxRecDepth 8000 in
set_option maxHeartbeats 1000000 in
theorem lethelaw15_SkipsExact_ok {B : Nat} {w0 : Base} {w : World} {L : List Rg} {most1 : Int} {list2 : List ((BitVec 32) × (BitVec 32) × (Nat → BitVec 8))} {alist2 : Option Addr} {nlist2 clist2 ilist2 : Nat} (hlist2 : LV D81 L ilist2 alist2 nlist2 clist2 list2) {script3 : List (Int × (BitVec 32) × (BitVec 32) × (List (Nat → BitVec 8)))} {ascript3 : Option Addr} {nscript3 cscript3 iscript3 : Nat} (hscript3 : LV (D113.at L) L iscript3 ascript3 nscript3 cscript3 script3) {r : Bool} (hR : lethelaw15_SkipsExact most1 list2 script3 r) (HST : St B w0 (L) w) :
    Calls Try.prog 13 #[.int .i64 most1, .slice alist2 nlist2 clist2, .slice ascript3 nscript3 cscript3] w fun e w' => e = .returned (.bool r) ∧ St B w0 (L) w' := by
  refine W.enter 152 Try.func13 rfl rfl rfl ?_
  unfold lethelaw15_SkipsExact at hR
  have elist2 := hlist2.hl; subst elist2
  have escript3 := hscript3.hl; subst escript3
  refine W.seq_k fun K4 hK4 => ?_
  refine W.regionT [(0, true)] (by kernel_rfl) ?_
  refine Plan.assign_bool rfl rfl ?_
  refine Plan.nil ?_
  refine hK4 _ _ ?_; clear hK4
  refine GL.open (l := [_, _, _]) (by simp) fun K5 hK5 => ?_
  obtain ⟨ok58, hX58, hR058⟩ := hR
  refine GL.cutN (fun e w => (ok58 = true) ∧ EnvHas e [(0, .int .i64 most1), (1, .slice alist2 list2.length clist2), (2, .slice ascript3 script3.length cscript3)] ∧ St B w0 (L) w) ?_ ?_
  ·
    replace hR := hX58
    refine GL.next fun K59 hK59 => ?_
    refine W.regionT [(0, true), (1, false), (2, true), (3, true), (4, true), (5, true), (6, true)] (by kernel_rfl) ?_
    refine Plan.move_int rfl rfl ?_
    rcases hR with ⟨x_61, hr60, hR⟩ | ⟨x_62, x_63, x_64, hr60, hR⟩
    ·
      refine Plan.call (vs := [.int .i64 most1]) rfl FSkipsExact.call35 rfl (skips_New_ok  hr60 HST) ?_
      rintro _ w65 ⟨rfl, h65⟩
      refine ⟨_, rfl, .inl ⟨PIn.keep (by exact PIn.nil) h65, ?_⟩⟩
      refine Plan.move_tuple rfl rfl ?_
      refine Plan.extract_ptr rfl rfl rfl ?_
      refine Plan.extract_int rfl rfl rfl ?_
      refine Plan.assign_ptr rfl rfl ?_
      refine Plan.assign_int rfl rfl ?_
      refine Plan.nil ?_
      refine hK59 _ _ ?_; clear hK59
      refine GL.next fun K66 hK66 => ?_
      refine W.regionT [(0, true), (1, false), (2, true), (3, true), (4, true), (5, true), (6, true)] (by kernel_rfl) ?_
      refine Plan.move_int rfl rfl ?_
      rcases hR with ⟨x_68, hr67, hR⟩ | ⟨x_69, x_70, x_71, hr67, hR⟩
      ·
        refine Plan.call (vs := [.int .i64 most1]) rfl FSkipsExact.call51 rfl (letheref15_New_ok  hr67 h65) ?_
        rintro _ w72 ⟨rfl, h72⟩
        refine ⟨_, rfl, .inl ⟨PIn.keep (by exact PIn.nil) h72, ?_⟩⟩
        refine Plan.move_tuple rfl rfl ?_
        refine Plan.extract_ptr rfl rfl rfl ?_
        refine Plan.extract_int rfl rfl rfl ?_
        refine Plan.assign_ptr rfl rfl ?_
        refine Plan.assign_int rfl rfl ?_
        refine Plan.nil ?_
        refine hK66 _ _ ?_; clear hK66
        refine GL.one ?_
        refine W.seq_k fun K73 hK73 => ?_
        refine W.regionT [(0, true), (1, true), (2, true), (3, true), (4, true), (5, true), (6, true), (7, true), (8, true), (9, true)] (by kernel_rfl) ?_
        refine Plan.move_int rfl rfl ?_
        refine Plan.move_int rfl rfl ?_
        by_cases hc74 : x_61 ≠ x_68
        ·
          replace hR := ifT hR hc74
          refine Plan.cmpV (a := (((x_61 : Nat) : Int) : Int)) (b := (((x_68 : Nat) : Int) : Int)) (p := x_61 ≠ x_68) (v := true) rfl rfl rfl rfl icmp_neN (decide_eq_true hc74) ?_
          refine Plan.move_bool rfl rfl ?_
          refine Plan.passed rfl ?_
          refine Plan.passed rfl ?_
          refine Plan.passed rfl ?_
          refine Plan.passed rfl ?_
          refine Plan.passed rfl ?_
          refine Plan.pickTb rfl rfl rfl ?_
          refine Plan.nil ?_
          refine hK73 _ _ ?_; clear hK73
          refine W.condT rfl ?_
          refine W.seq_k fun K75 hK75 => ?_
          refine W.regionT [(0, true)] (by kernel_rfl) ?_
          refine Plan.assign_bool rfl rfl ?_
          refine Plan.nil ?_
          refine hK75 _ _ ?_; clear hK75
          refine W.ret (thenR_ret (thenR_ret (finR_ret ?_)))
          replace hR := hR.2
          subst r
          refine RetOk.mk (.tmp_bool rfl .nil) ?_
          exact ⟨rfl, h72⟩
        ·
          replace hR := ifF hR hc74
          refine Plan.cmpV (a := (((x_61 : Nat) : Int) : Int)) (b := (((x_68 : Nat) : Int) : Int)) (p := x_61 ≠ x_68) (v := false) rfl rfl rfl rfl icmp_neN (decide_eq_false hc74) ?_
          refine Plan.move_bool rfl rfl ?_
          refine Plan.move_ptr rfl rfl ?_
          refine Plan.eqNil (b := true) FSkipsExact.ptr67 rfl rfl rfl rfl ?_
          refine Plan.move_ptr rfl rfl ?_
          refine Plan.eqNil (b := true) FSkipsExact.ptr103 rfl rfl rfl rfl ?_
          refine Plan.neBoolV (v := false) FSkipsExact.bool4 rfl rfl rfl rfl ?_
          refine Plan.pickFb rfl rfl rfl ?_
          refine Plan.nil ?_
          refine hK73 _ _ ?_; clear hK73
          refine W.condF rfl ?_
          refine W.skip ?_
          exact ⟨hR, (EnvHas.cons rfl (EnvHas.cons rfl (EnvHas.cons rfl EnvHas.nil))), h72⟩
      ·
        refine Plan.call (vs := [.int .i64 most1]) rfl FSkipsExact.call51 rfl (letheref15_New_ok  hr67 h65) ?_
        rintro _ w82 ⟨b0_76, aw0_0_77, pw0_0_78, nw0_0_79, cw0_0_80, Fw0_0_81, rfl, h82, hf82_0⟩
        try dsimp only at hf82_0
        obtain rfl := hf82_0.hl
        refine ⟨_, rfl, .inl ⟨PIn.keep (by exact PIn.nil) h82, ?_⟩⟩
        refine Plan.move_tuple rfl rfl ?_
        refine Plan.extract_ptr rfl rfl rfl ?_
        refine Plan.extract_int rfl rfl rfl ?_
        refine Plan.assign_ptr rfl rfl ?_
        refine Plan.assign_int rfl rfl ?_
        refine Plan.nil ?_
        refine hK66 _ _ ?_; clear hK66
        refine GL.one ?_
        refine W.seq_k fun K83 hK83 => ?_
        refine W.regionT [(0, true), (1, true), (2, true), (3, true), (4, true), (5, true), (6, true), (7, true), (8, true), (9, true)] (by kernel_rfl) ?_
        refine Plan.move_int rfl rfl ?_
        refine Plan.move_int rfl rfl ?_
        by_cases hc84 : x_61 ≠ x_71
        ·
          replace hR := ifT hR hc84
          refine Plan.cmpV (a := (((x_61 : Nat) : Int) : Int)) (b := (((x_71 : Nat) : Int) : Int)) (p := x_61 ≠ x_71) (v := true) rfl rfl rfl rfl icmp_neN (decide_eq_true hc84) ?_
          refine Plan.move_bool rfl rfl ?_
          refine Plan.passed rfl ?_
          refine Plan.passed rfl ?_
          refine Plan.passed rfl ?_
          refine Plan.passed rfl ?_
          refine Plan.passed rfl ?_
          refine Plan.pickTb rfl rfl rfl ?_
          refine Plan.nil ?_
          refine hK83 _ _ ?_; clear hK83
          refine W.condT rfl ?_
          refine W.seq_k fun K85 hK85 => ?_
          refine W.regionT [(0, true)] (by kernel_rfl) ?_
          refine Plan.assign_bool rfl rfl ?_
          refine Plan.nil ?_
          refine hK85 _ _ ?_; clear hK85
          refine W.ret (thenR_ret (thenR_ret (finR_ret ?_)))
          have h86 := St.pickT (C := [_, _, _]) h82 [] (by decide)
          simp only [pick, List.filterMap_cons, List.filterMap_nil, List.getElem?_cons_zero, List.getElem?_cons_succ, List.cons_append, List.nil_append] at h86
          replace hR := hR.2
          subst r
          refine RetOk.mk (.tmp_bool rfl .nil) ?_
          exact ⟨rfl, h86⟩
        ·
          replace hR := ifF hR hc84
          refine Plan.cmpV (a := (((x_61 : Nat) : Int) : Int)) (b := (((x_71 : Nat) : Int) : Int)) (p := x_61 ≠ x_71) (v := false) rfl rfl rfl rfl icmp_neN (decide_eq_false hc84) ?_
          refine Plan.move_bool rfl rfl ?_
          refine Plan.move_ptr rfl rfl ?_
          refine Plan.eqNil (b := true) FSkipsExact.ptr67 rfl rfl rfl rfl ?_
          refine Plan.move_ptr rfl rfl ?_
          refine Plan.eqNil (b := false) FSkipsExact.ptr103 rfl rfl rfl rfl ?_
          refine Plan.neBoolV (v := true) FSkipsExact.bool4 rfl rfl rfl rfl ?_
          refine Plan.pickFb rfl rfl rfl ?_
          refine Plan.nil ?_
          refine hK83 _ _ ?_; clear hK83
          refine W.condT rfl ?_
          refine W.seq_k fun K87 hK87 => ?_
          refine W.regionT [(0, true)] (by kernel_rfl) ?_
          refine Plan.assign_bool rfl rfl ?_
          refine Plan.nil ?_
          refine hK87 _ _ ?_; clear hK87
          refine W.ret (thenR_ret (thenR_ret (finR_ret ?_)))
          have h88 := St.pickT (C := [_, _, _]) h82 [] (by decide)
          simp only [pick, List.filterMap_cons, List.filterMap_nil, List.getElem?_cons_zero, List.getElem?_cons_succ, List.cons_append, List.nil_append] at h88
          replace hR := hR.2
          subst r
          refine RetOk.mk (.tmp_bool rfl .nil) ?_
          exact ⟨rfl, h88⟩
    ·
      refine Plan.call (vs := [.int .i64 most1]) rfl FSkipsExact.call35 rfl (skips_New_ok (w0 := w0) hr60 HST) ?_
      rintro _ w91 ⟨b0_89, mw0_1_90, rfl, h91⟩
      replace h91 : St B (w0.on [mapR kv2 D71 [] mw0_1_90 x_63]) _ _ := h91
      refine ⟨_, rfl, .inl ⟨PIn.keep (by exact PIn.nil) h91, ?_⟩⟩
      refine Plan.move_tuple rfl rfl ?_
      refine Plan.extract_ptr rfl rfl rfl ?_
      refine Plan.extract_int rfl rfl rfl ?_
      refine Plan.assign_ptr rfl rfl ?_
      refine Plan.assign_int rfl rfl ?_
      refine Plan.nil ?_
      refine hK59 _ _ ?_; clear hK59
      refine GL.next fun K92 hK92 => ?_
      refine W.regionT [(0, true), (1, false), (2, true), (3, true), (4, true), (5, true), (6, true)] (by kernel_rfl) ?_
      refine Plan.move_int rfl rfl ?_
      rcases hR with ⟨x_94, hr93, hR⟩ | ⟨x_95, x_96, x_97, hr93, hR⟩
      ·
        refine Plan.call (vs := [.int .i64 most1]) rfl FSkipsExact.call51 rfl (letheref15_New_ok  hr93 h91) ?_
        rintro _ w98 ⟨rfl, h98⟩
        refine ⟨_, rfl, .inl ⟨PIn.keep (by exact PIn.nil) h98, ?_⟩⟩
        refine Plan.move_tuple rfl rfl ?_
        refine Plan.extract_ptr rfl rfl rfl ?_
        refine Plan.extract_int rfl rfl rfl ?_
        refine Plan.assign_ptr rfl rfl ?_
        refine Plan.assign_int rfl rfl ?_
        refine Plan.nil ?_
        refine hK92 _ _ ?_; clear hK92
        refine GL.one ?_
        refine W.seq_k fun K99 hK99 => ?_
        refine W.regionT [(0, true), (1, true), (2, true), (3, true), (4, true), (5, true), (6, true), (7, true), (8, true), (9, true)] (by kernel_rfl) ?_
        refine Plan.move_int rfl rfl ?_
        refine Plan.move_int rfl rfl ?_
        by_cases hc100 : x_64 ≠ x_94
        ·
          replace hR := ifT hR hc100
          refine Plan.cmpV (a := (((x_64 : Nat) : Int) : Int)) (b := (((x_94 : Nat) : Int) : Int)) (p := x_64 ≠ x_94) (v := true) rfl rfl rfl rfl icmp_neN (decide_eq_true hc100) ?_
          refine Plan.move_bool rfl rfl ?_
          refine Plan.passed rfl ?_
          refine Plan.passed rfl ?_
          refine Plan.passed rfl ?_
          refine Plan.passed rfl ?_
          refine Plan.passed rfl ?_
          refine Plan.pickTb rfl rfl rfl ?_
          refine Plan.nil ?_
          refine hK99 _ _ ?_; clear hK99
          refine W.condT rfl ?_
          refine W.seq_k fun K101 hK101 => ?_
          refine W.regionT [(0, true)] (by kernel_rfl) ?_
          refine Plan.assign_bool rfl rfl ?_
          refine Plan.nil ?_
          refine hK101 _ _ ?_; clear hK101
          refine W.ret (thenR_ret (thenR_ret (finR_ret ?_)))
          have h102 := St.pickT (C := [_, _]) h98 [] (by decide)
          simp only [pick, List.filterMap_cons, List.filterMap_nil, List.getElem?_cons_zero, List.getElem?_cons_succ, List.cons_append, List.nil_append] at h102
          have h103 : St B w0 _ _ := St.mpick (N := [mapR kv2 D71 [] mw0_1_90 x_63]) (N' := []) h102 [] (by decide) rfl
          replace hR := hR.2
          subst r
          refine RetOk.mk (.tmp_bool rfl .nil) ?_
          exact ⟨rfl, h103⟩
        ·
          replace hR := ifF hR hc100
          refine Plan.cmpV (a := (((x_64 : Nat) : Int) : Int)) (b := (((x_94 : Nat) : Int) : Int)) (p := x_64 ≠ x_94) (v := false) rfl rfl rfl rfl icmp_neN (decide_eq_false hc100) ?_
          refine Plan.move_bool rfl rfl ?_
          refine Plan.move_ptr rfl rfl ?_
          refine Plan.eqNil (b := false) FSkipsExact.ptr67 rfl rfl rfl rfl ?_
          refine Plan.move_ptr rfl rfl ?_
          refine Plan.eqNil (b := true) FSkipsExact.ptr103 rfl rfl rfl rfl ?_
          refine Plan.neBoolV (v := true) FSkipsExact.bool4 rfl rfl rfl rfl ?_
          refine Plan.pickFb rfl rfl rfl ?_
          refine Plan.nil ?_
          refine hK99 _ _ ?_; clear hK99
          refine W.condT rfl ?_
          refine W.seq_k fun K104 hK104 => ?_
          refine W.regionT [(0, true)] (by kernel_rfl) ?_
          refine Plan.assign_bool rfl rfl ?_
          refine Plan.nil ?_
          refine hK104 _ _ ?_; clear hK104
          refine W.ret (thenR_ret (thenR_ret (finR_ret ?_)))
          have h105 := St.pickT (C := [_, _]) h98 [] (by decide)
          simp only [pick, List.filterMap_cons, List.filterMap_nil, List.getElem?_cons_zero, List.getElem?_cons_succ, List.cons_append, List.nil_append] at h105
          have h106 : St B w0 _ _ := St.mpick (N := [mapR kv2 D71 [] mw0_1_90 x_63]) (N' := []) h105 [] (by decide) rfl
          replace hR := hR.2
          subst r
          refine RetOk.mk (.tmp_bool rfl .nil) ?_
          exact ⟨rfl, h106⟩
      ·
        refine Plan.call (vs := [.int .i64 most1]) rfl FSkipsExact.call51 rfl (letheref15_New_ok  hr93 h91) ?_
        rintro _ w113 ⟨b0_107, aw0_0_108, pw0_0_109, nw0_0_110, cw0_0_111, Fw0_0_112, rfl, h113, hf113_0⟩
        try dsimp only at hf113_0
        obtain rfl := hf113_0.hl
        refine ⟨_, rfl, .inl ⟨PIn.keep (by exact PIn.nil) h113, ?_⟩⟩
        refine Plan.move_tuple rfl rfl ?_
        refine Plan.extract_ptr rfl rfl rfl ?_
        refine Plan.extract_int rfl rfl rfl ?_
        refine Plan.assign_ptr rfl rfl ?_
        refine Plan.assign_int rfl rfl ?_
        refine Plan.nil ?_
        refine hK92 _ _ ?_; clear hK92
        refine GL.one ?_
        refine W.seq_k fun K114 hK114 => ?_
        refine W.regionT [(0, true), (1, true), (2, true), (3, true), (4, true), (5, true), (6, true), (7, true), (8, true), (9, true)] (by kernel_rfl) ?_
        refine Plan.move_int rfl rfl ?_
        refine Plan.move_int rfl rfl ?_
        by_cases hc115 : x_64 ≠ x_97
        ·
          replace hR := ifT hR hc115
          refine Plan.cmpV (a := (((x_64 : Nat) : Int) : Int)) (b := (((x_97 : Nat) : Int) : Int)) (p := x_64 ≠ x_97) (v := true) rfl rfl rfl rfl icmp_neN (decide_eq_true hc115) ?_
          refine Plan.move_bool rfl rfl ?_
          refine Plan.passed rfl ?_
          refine Plan.passed rfl ?_
          refine Plan.passed rfl ?_
          refine Plan.passed rfl ?_
          refine Plan.passed rfl ?_
          refine Plan.pickTb rfl rfl rfl ?_
          refine Plan.nil ?_
          refine hK114 _ _ ?_; clear hK114
          refine W.condT rfl ?_
          refine W.seq_k fun K116 hK116 => ?_
          refine W.regionT [(0, true)] (by kernel_rfl) ?_
          refine Plan.assign_bool rfl rfl ?_
          refine Plan.nil ?_
          refine hK116 _ _ ?_; clear hK116
          refine W.ret (thenR_ret (thenR_ret (finR_ret ?_)))
          have h117 := St.pickT (C := [_, _, _, _, _]) h113 [] (by decide)
          simp only [pick, List.filterMap_cons, List.filterMap_nil, List.getElem?_cons_zero, List.getElem?_cons_succ, List.cons_append, List.nil_append] at h117
          have h118 : St B w0 _ _ := St.mpick (N := [mapR kv2 D71 [] mw0_1_90 x_63]) (N' := []) h117 [] (by decide) rfl
          replace hR := hR.2
          subst r
          refine RetOk.mk (.tmp_bool rfl .nil) ?_
          exact ⟨rfl, h118⟩
        ·
          replace hR := ifF hR hc115
          refine Plan.cmpV (a := (((x_64 : Nat) : Int) : Int)) (b := (((x_97 : Nat) : Int) : Int)) (p := x_64 ≠ x_97) (v := false) rfl rfl rfl rfl icmp_neN (decide_eq_false hc115) ?_
          refine Plan.move_bool rfl rfl ?_
          refine Plan.move_ptr rfl rfl ?_
          refine Plan.eqNil (b := false) FSkipsExact.ptr67 rfl rfl rfl rfl ?_
          refine Plan.move_ptr rfl rfl ?_
          refine Plan.eqNil (b := false) FSkipsExact.ptr103 rfl rfl rfl rfl ?_
          refine Plan.neBoolV (v := false) FSkipsExact.bool4 rfl rfl rfl rfl ?_
          refine Plan.pickFb rfl rfl rfl ?_
          refine Plan.nil ?_
          refine hK114 _ _ ?_; clear hK114
          refine W.condF rfl ?_
          refine W.skip ?_
          have h119 := St.pickT (C := [_, _, _, _, _]) h113 [] (by decide)
          simp only [pick, List.filterMap_cons, List.filterMap_nil, List.getElem?_cons_zero, List.getElem?_cons_succ, List.cons_append, List.nil_append] at h119
          have h120 : St B w0 _ _ := St.mpick (N := [mapR kv2 D71 [] mw0_1_90 x_63]) (N' := []) h119 [] (by decide) rfl
          exact ⟨hR, (EnvHas.cons rfl (EnvHas.cons rfl (EnvHas.cons rfl EnvHas.nil))), h120⟩
  ·
    rintro ev121 wl121 ⟨hy121_0, he121, h121⟩
    obtain ⟨ev121, rfl⟩ := he121.open
    replace hR := hR058 hy121_0
    refine hK5 _ _ ?_; clear hK5
    refine W.seq_k fun K122 hK122 => ?_
    refine W.regionT [(0, true), (1, false), (2, false)] (by kernel_rfl) ?_
    refine Plan.buildP (ps := [(1, fun _ => VU .u32 (66#32)), (1, fun _ => VU .u32 (0#32)), (32, fun q => VU .u8 ((fun _ => 0#8) q))]) FSkipsExact.pl81 (by decide) FSkipsExact.z81 rfl rfl (.one [] [(1, fun _ => VU .u32 (0#32)), (32, fun q => VU .u8 ((fun _ => 0#8) q))] (fun _ => VU .u32 (0#32)) rfl rfl .nil) ?_
    refine Plan.alloc h121 rfl FSkipsExact.z81 PIn.nil fun b123 w123 hb123 h123 => ?_
    simp only [rngs, Nat.zero_add, Nat.reduceAdd, List.cons_append, List.nil_append] at h123
    refine Plan.storeP (ps := [(1, fun _ => VU .u32 (66#32)), (1, fun _ => VU .u32 (0#32)), (32, fun q => VU .u8 ((fun _ => 0#8) q))]) h123 rfl rfl rfl (.cons 0 rfl (.cons 1 rfl (.cons 2 rfl .nil))) ⟨fun _ _ => rfl, fun _ _ => rfl, fun _ _ => rfl, trivial⟩ FSkipsExact.sz81 (EffO.keep PIn.nil) fun w124 h124 => ?_
    simp only [List.cons_append, List.nil_append, List.set_cons_zero, List.set_cons_succ] at h124
    refine Plan.nil ?_
    refine hK122 _ _ ?_; clear hK122
    refine W.seq_k fun K125 hK125 => ?_
    obtain ⟨long154, hX155, hR0155⟩ := hR
    refine W.cutN (fun e w => ∃ y_long154 : List ((BitVec 32) × (BitVec 32) × (Nat → BitVec 8)), (long154 = y_long154) ∧ ∃ n_long154 : Nat, ∃ along154 : Option Addr, ∃ plong154 : Option Nat, ∃ clong154 : Nat, ∃ Flong154 : Nat → Value, EnvHas e [(0, .int .i64 most1), (1, .slice alist2 list2.length clist2), (2, .slice ascript3 script3.length cscript3), (11, .pointer (some ⟨b123, 0, none⟩)), (12, .slice along154 n_long154 clong154)] ∧ St B w0 (⟨plong154, 0, clong154 * 34, Flong154, true⟩ :: ⟨some b123, 0, 1, fun _ => VU .u32 (66#32), true⟩ :: ⟨some b123, 1, 1, fun _ => VU .u32 (0#32), true⟩ :: ⟨some b123, 2, 32, fun q => VU .u8 ((fun _ => 0#8) q), true⟩ :: L) w ∧ LO D81 [] along154 plong154 n_long154 clong154 Flong154 y_long154) ?_ ?_
    ·
      replace hR := hX155
      refine W.regionF FSkipsExact.mixed (.fork [(1, true), (3, true), (4, true)] (.fork [(0, false)] (.line [(2, false), (5, false), (6, false), (7, true)]) (.line [(5, false), (2, false), (6, false), (7, true)])) (.line [(5, false), (0, false), (2, false), (6, false), (7, true)])) (by kernel_rfl) (PlanT.toFork ?_)
      have h156 := h124.drew
      refine Plan.move_slice rfl rfl ?_
      refine Plan.loadA h156 rfl rfl (.cons 0 rfl (.cons 1 rfl (.cons 2 rfl .nil))) FSkipsExact.agg81 ?_
      refine Plan.loadA h156 rfl rfl (.cons 0 rfl (.cons 1 rfl (.cons 2 rfl .nil))) FSkipsExact.agg81 ?_
      obtain ⟨hc159, hR⟩ := hR
      obtain ⟨hc163, hR⟩ := hR
      obtain ⟨hc167, hR⟩ := hR
      obtain ⟨hc169, hR⟩ := hR
      refine Plan.forked ?_ ?_
      ·
        refine PlanT.toFork ?_
        refine Plan.buildEL h156 (fun _ => undef) FSkipsExact.slu78 FSkipsExact.sz81 rfl (EffO.keep (PIn.parts (.cons 0 rfl (.cons 1 rfl (.cons 2 rfl .nil))) (PIn.parts (.cons 0 rfl (.cons 1 rfl (.cons 2 rfl .nil))) PIn.nil))) fun b170 w170 hb170 h170 => ?_
        refine Plan.forked ?_ ?_
        ·
          refine PlanT.toLine ?_
          refine Plan.appendLO (D := D81) (X := ([] : List ((BitVec 32) × (BitVec 32) × (Nat → BitVec 8)))) (Y := list2) (sz := 34) h170 () (0#32, 0#32, (fun _ => 0#8)) 0 LO.empty rfl FSkipsExact.el78 rfl FSkipsExact.slu78 rfl rfl rfl rfl (hlist2.app [_, _, _, _]) (fun _ _ h => h) hc167.1 hc167.2 (fun _ => EffO.keep (PIn.parts (.cons 1 rfl (.cons 2 rfl (.cons 3 rfl .nil))) (PIn.parts (.cons 1 rfl (.cons 2 rfl (.cons 3 rfl .nil))) PIn.nil))) fun a171 pb171 cap171 F171 w171 ho171 h171 => ?_
          simp only [List.cons_append, List.nil_append, List.set_cons_zero, List.set_cons_succ] at h171
          replace ho171 : LO D81 [] a171 pb171 (([] : List ((BitVec 32) × (BitVec 32) × (Nat → BitVec 8))) ++ list2).length cap171 F171 (([] : List ((BitVec 32) × (BitVec 32) × (Nat → BitVec 8))) ++ list2) := ho171.re (fun _ _ h => h)
          refine Plan.buildLO (D := D81) (sz := 34) h171 [((), (66#32, 0#32, (fun _ => 0#8))), ((), (66#32, 0#32, (fun _ => 0#8)))] FSkipsExact.slu78 FSkipsExact.sz81 FSkipsExact.zv81 (by decide) (by decide) rfl rfl rfl rfl (fun _ _ => trivial) (EffO.wait rfl) fun b173 w173 F173 hb173 ho173 h173 => ?_
          replace ho173 : LO D81 [] (some ⟨b173, 0, none⟩) (some b173) ([(66#32, 0#32, (fun _ => 0#8)), (66#32, 0#32, (fun _ => 0#8))] : List ((BitVec 32) × (BitVec 32) × (Nat → BitVec 8))).length 2 F173 ([(66#32, 0#32, (fun _ => 0#8)), (66#32, 0#32, (fun _ => 0#8))] : List ((BitVec 32) × (BitVec 32) × (Nat → BitVec 8))) := ho173.re (fun _ _ h => h)
          refine Plan.appendLO (D := D81) (X := (([] : List ((BitVec 32) × (BitVec 32) × (Nat → BitVec 8))) ++ list2)) (Y := ([(66#32, 0#32, (fun _ => 0#8)), (66#32, 0#32, (fun _ => 0#8))] : List ((BitVec 32) × (BitVec 32) × (Nat → BitVec 8)))) (sz := 34) h173 () (0#32, 0#32, (fun _ => 0#8)) 1 ho171 rfl FSkipsExact.el78 rfl FSkipsExact.slu78 rfl rfl rfl rfl (LO.lvf D81_flat ho173 0 rfl) (fun _ _ h => h) hc169.1 hc169.2 (fun _ => EffO.keep PIn.nil) fun a174 pb174 cap174 F174 w174 ho174 h174 => ?_
          simp only [List.cons_append, List.nil_append, List.set_cons_zero, List.set_cons_succ] at h174
          replace ho174 : LO D81 [] a174 pb174 ((([] : List ((BitVec 32) × (BitVec 32) × (Nat → BitVec 8))) ++ list2) ++ ([(66#32, 0#32, (fun _ => 0#8)), (66#32, 0#32, (fun _ => 0#8))] : List ((BitVec 32) × (BitVec 32) × (Nat → BitVec 8)))).length cap174 F174 ((([] : List ((BitVec 32) × (BitVec 32) × (Nat → BitVec 8))) ++ list2) ++ ([(66#32, 0#32, (fun _ => 0#8)), (66#32, 0#32, (fun _ => 0#8))] : List ((BitVec 32) × (BitVec 32) × (Nat → BitVec 8)))) := ho174.re (fun _ _ h => h)
          refine Plan.assign_slice rfl rfl ?_
          refine Plan.nil ?_
          have h175 := St.pickT (C := [_, _, _, _, _]) h174 [1, 2, 3, 4] (by decide)
          simp only [pick, List.filterMap_cons, List.filterMap_nil, List.getElem?_cons_zero, List.getElem?_cons_succ, List.cons_append, List.nil_append] at h175
          exact ⟨((([] : List ((BitVec 32) × (BitVec 32) × (Nat → BitVec 8))) ++ list2) ++ ([(66#32, 0#32, (fun _ => 0#8)), (66#32, 0#32, (fun _ => 0#8))] : List ((BitVec 32) × (BitVec 32) × (Nat → BitVec 8)))), hR, ((([] : List ((BitVec 32) × (BitVec 32) × (Nat → BitVec 8))) ++ list2) ++ ([(66#32, 0#32, (fun _ => 0#8)), (66#32, 0#32, (fun _ => 0#8))] : List ((BitVec 32) × (BitVec 32) × (Nat → BitVec 8)))).length, a174, pb174, cap174, F174, (EnvHas.cons rfl (EnvHas.cons rfl (EnvHas.cons rfl (EnvHas.cons rfl (EnvHas.cons rfl EnvHas.nil))))), h175, ho174⟩
        ·
          refine PlanT.toLine ?_
          refine Plan.buildLO (D := D81) (sz := 34) h170 [((), (66#32, 0#32, (fun _ => 0#8))), ((), (66#32, 0#32, (fun _ => 0#8)))] FSkipsExact.slu78 FSkipsExact.sz81 FSkipsExact.zv81 (by decide) (by decide) rfl rfl rfl rfl (fun _ _ => trivial) (EffO.wait rfl) fun b177 w177 F177 hb177 ho177 h177 => ?_
          replace ho177 : LO D81 [] (some ⟨b177, 0, none⟩) (some b177) ([(66#32, 0#32, (fun _ => 0#8)), (66#32, 0#32, (fun _ => 0#8))] : List ((BitVec 32) × (BitVec 32) × (Nat → BitVec 8))).length 2 F177 ([(66#32, 0#32, (fun _ => 0#8)), (66#32, 0#32, (fun _ => 0#8))] : List ((BitVec 32) × (BitVec 32) × (Nat → BitVec 8))) := ho177.re (fun _ _ h => h)
          refine Plan.appendLO (D := D81) (X := ([] : List ((BitVec 32) × (BitVec 32) × (Nat → BitVec 8)))) (Y := list2) (sz := 34) h177 () (0#32, 0#32, (fun _ => 0#8)) 1 LO.empty rfl FSkipsExact.el78 rfl FSkipsExact.slu78 rfl rfl rfl rfl (hlist2.app [_, _, _, _, _]) (fun _ _ h => h) hc167.1 hc167.2 (fun _ => EffO.keep PIn.nil) fun a178 pb178 cap178 F178 w178 ho178 h178 => ?_
          simp only [List.cons_append, List.nil_append, List.set_cons_zero, List.set_cons_succ] at h178
          replace ho178 : LO D81 [] a178 pb178 (([] : List ((BitVec 32) × (BitVec 32) × (Nat → BitVec 8))) ++ list2).length cap178 F178 (([] : List ((BitVec 32) × (BitVec 32) × (Nat → BitVec 8))) ++ list2) := ho178.re (fun _ _ h => h)
          refine Plan.appendLO (D := D81) (X := (([] : List ((BitVec 32) × (BitVec 32) × (Nat → BitVec 8))) ++ list2)) (Y := ([(66#32, 0#32, (fun _ => 0#8)), (66#32, 0#32, (fun _ => 0#8))] : List ((BitVec 32) × (BitVec 32) × (Nat → BitVec 8)))) (sz := 34) h178 () (0#32, 0#32, (fun _ => 0#8)) 1 ho178 rfl FSkipsExact.el78 rfl FSkipsExact.slu78 rfl rfl rfl rfl (LO.lvf D81_flat ho177 0 rfl) (fun _ _ h => h) hc169.1 hc169.2 (fun _ => EffO.keep PIn.nil) fun a179 pb179 cap179 F179 w179 ho179 h179 => ?_
          simp only [List.cons_append, List.nil_append, List.set_cons_zero, List.set_cons_succ] at h179
          replace ho179 : LO D81 [] a179 pb179 ((([] : List ((BitVec 32) × (BitVec 32) × (Nat → BitVec 8))) ++ list2) ++ ([(66#32, 0#32, (fun _ => 0#8)), (66#32, 0#32, (fun _ => 0#8))] : List ((BitVec 32) × (BitVec 32) × (Nat → BitVec 8)))).length cap179 F179 ((([] : List ((BitVec 32) × (BitVec 32) × (Nat → BitVec 8))) ++ list2) ++ ([(66#32, 0#32, (fun _ => 0#8)), (66#32, 0#32, (fun _ => 0#8))] : List ((BitVec 32) × (BitVec 32) × (Nat → BitVec 8)))) := ho179.re (fun _ _ h => h)
          refine Plan.assign_slice rfl rfl ?_
          refine Plan.nil ?_
          have h180 := St.pickT (C := [_, _, _, _, _]) h179 [1, 2, 3, 4] (by decide)
          simp only [pick, List.filterMap_cons, List.filterMap_nil, List.getElem?_cons_zero, List.getElem?_cons_succ, List.cons_append, List.nil_append] at h180
          exact ⟨((([] : List ((BitVec 32) × (BitVec 32) × (Nat → BitVec 8))) ++ list2) ++ ([(66#32, 0#32, (fun _ => 0#8)), (66#32, 0#32, (fun _ => 0#8))] : List ((BitVec 32) × (BitVec 32) × (Nat → BitVec 8)))), hR, ((([] : List ((BitVec 32) × (BitVec 32) × (Nat → BitVec 8))) ++ list2) ++ ([(66#32, 0#32, (fun _ => 0#8)), (66#32, 0#32, (fun _ => 0#8))] : List ((BitVec 32) × (BitVec 32) × (Nat → BitVec 8)))).length, a179, pb179, cap179, F179, (EnvHas.cons rfl (EnvHas.cons rfl (EnvHas.cons rfl (EnvHas.cons rfl (EnvHas.cons rfl EnvHas.nil))))), h180, ho179⟩
      ·
        refine PlanT.toLine ?_
        refine Plan.buildLO (D := D81) (sz := 34) h156 [((), (66#32, 0#32, (fun _ => 0#8))), ((), (66#32, 0#32, (fun _ => 0#8)))] FSkipsExact.slu78 FSkipsExact.sz81 FSkipsExact.zv81 (by decide) (by decide) rfl rfl rfl rfl (fun _ _ => trivial) (EffO.wait rfl) fun b182 w182 F182 hb182 ho182 h182 => ?_
        replace ho182 : LO D81 [] (some ⟨b182, 0, none⟩) (some b182) ([(66#32, 0#32, (fun _ => 0#8)), (66#32, 0#32, (fun _ => 0#8))] : List ((BitVec 32) × (BitVec 32) × (Nat → BitVec 8))).length 2 F182 ([(66#32, 0#32, (fun _ => 0#8)), (66#32, 0#32, (fun _ => 0#8))] : List ((BitVec 32) × (BitVec 32) × (Nat → BitVec 8))) := ho182.re (fun _ _ h => h)
        refine Plan.buildEL h182 (fun _ => undef) FSkipsExact.slu78 FSkipsExact.sz81 rfl (EffO.keep PIn.nil) fun b183 w183 hb183 h183 => ?_
        refine Plan.appendLO (D := D81) (X := ([] : List ((BitVec 32) × (BitVec 32) × (Nat → BitVec 8)))) (Y := list2) (sz := 34) h183 () (0#32, 0#32, (fun _ => 0#8)) 0 LO.empty rfl FSkipsExact.el78 rfl FSkipsExact.slu78 rfl rfl rfl rfl (hlist2.app [_, _, _, _, _]) (fun _ _ h => h) hc167.1 hc167.2 (fun _ => EffO.keep PIn.nil) fun a184 pb184 cap184 F184 w184 ho184 h184 => ?_
        simp only [List.cons_append, List.nil_append, List.set_cons_zero, List.set_cons_succ] at h184
        replace ho184 : LO D81 [] a184 pb184 (([] : List ((BitVec 32) × (BitVec 32) × (Nat → BitVec 8))) ++ list2).length cap184 F184 (([] : List ((BitVec 32) × (BitVec 32) × (Nat → BitVec 8))) ++ list2) := ho184.re (fun _ _ h => h)
        refine Plan.appendLO (D := D81) (X := (([] : List ((BitVec 32) × (BitVec 32) × (Nat → BitVec 8))) ++ list2)) (Y := ([(66#32, 0#32, (fun _ => 0#8)), (66#32, 0#32, (fun _ => 0#8))] : List ((BitVec 32) × (BitVec 32) × (Nat → BitVec 8)))) (sz := 34) h184 () (0#32, 0#32, (fun _ => 0#8)) 0 ho184 rfl FSkipsExact.el78 rfl FSkipsExact.slu78 rfl rfl rfl rfl (LO.lvf D81_flat ho182 1 rfl) (fun _ _ h => h) hc169.1 hc169.2 (fun _ => EffO.keep PIn.nil) fun a185 pb185 cap185 F185 w185 ho185 h185 => ?_
        simp only [List.cons_append, List.nil_append, List.set_cons_zero, List.set_cons_succ] at h185
        replace ho185 : LO D81 [] a185 pb185 ((([] : List ((BitVec 32) × (BitVec 32) × (Nat → BitVec 8))) ++ list2) ++ ([(66#32, 0#32, (fun _ => 0#8)), (66#32, 0#32, (fun _ => 0#8))] : List ((BitVec 32) × (BitVec 32) × (Nat → BitVec 8)))).length cap185 F185 ((([] : List ((BitVec 32) × (BitVec 32) × (Nat → BitVec 8))) ++ list2) ++ ([(66#32, 0#32, (fun _ => 0#8)), (66#32, 0#32, (fun _ => 0#8))] : List ((BitVec 32) × (BitVec 32) × (Nat → BitVec 8)))) := ho185.re (fun _ _ h => h)
        refine Plan.assign_slice rfl rfl ?_
        refine Plan.nil ?_
        have h186 := St.pickT (C := [_, _, _, _, _]) h185 [0, 2, 3, 4] (by decide)
        simp only [pick, List.filterMap_cons, List.filterMap_nil, List.getElem?_cons_zero, List.getElem?_cons_succ, List.cons_append, List.nil_append] at h186
        exact ⟨((([] : List ((BitVec 32) × (BitVec 32) × (Nat → BitVec 8))) ++ list2) ++ ([(66#32, 0#32, (fun _ => 0#8)), (66#32, 0#32, (fun _ => 0#8))] : List ((BitVec 32) × (BitVec 32) × (Nat → BitVec 8)))), hR, ((([] : List ((BitVec 32) × (BitVec 32) × (Nat → BitVec 8))) ++ list2) ++ ([(66#32, 0#32, (fun _ => 0#8)), (66#32, 0#32, (fun _ => 0#8))] : List ((BitVec 32) × (BitVec 32) × (Nat → BitVec 8)))).length, a185, pb185, cap185, F185, (EnvHas.cons rfl (EnvHas.cons rfl (EnvHas.cons rfl (EnvHas.cons rfl (EnvHas.cons rfl EnvHas.nil))))), h186, ho185⟩
    ·
      rintro ev187 wl187 ⟨y_long154, hy187_0, n_long154, along154, plong154, clong154, Flong154, he187, h187, hlong154⟩
      subst hy187_0
      obtain rfl : List.length (α := ((BitVec 32) × (BitVec 32) × (Nat → BitVec 8))) long154 = n_long154 := hlong154.hl
      obtain ⟨ev187, rfl⟩ := he187.open
      replace hR := hR0155
      refine hK125 _ _ ?_; clear hK125
      refine W.seq_k fun K188 hK188 => ?_
      refine W.regionT [(0, true), (1, true), (2, true), (3, true), (4, true)] (by kernel_rfl) ?_
      refine Plan.move_slice rfl rfl ?_
      refine Plan.move_slice rfl rfl ?_
      refine Plan.len FSkipsExact.isl78 rfl rfl ?_
      obtain ⟨hc189, hR⟩ := hR
      have hm190 : long154.length ≤ clong154 := hlong154.hc
      refine Plan.slSl0 (hi := list2.length) FSkipsExact.sl78 rfl rfl rfl ⟨_, rfl⟩ (by omega) ?_
      refine Plan.assign_slice rfl rfl ?_
      refine Plan.nil ?_
      refine hK188 _ _ ?_; clear hK188
      refine GL.open (l := [_, _, _, _]) (by simp) fun K191 hK191 => ?_
      obtain ⟨ok475, m469, mp471, m473, m474, hX475, hR0475⟩ := hR
      refine GL.cutN (fun e w => ∃ y_m469 : Int, ∃ y_mp471 : List ((BitVec 32 × BitVec 32) × (Nat → BitVec 8)), ∃ y_m473 : List ((BitVec 32) × (BitVec 32) × (Nat → BitVec 8)), ∃ y_m474 : Int, (ok475 = true ∧ m469 = y_m469 ∧ mp471 = y_mp471 ∧ m473 = y_m473 ∧ m474 = y_m474) ∧ ∃ b468 : Nat, ∃ m470 : Nat, ∃ b472 : Nat, ∃ n_m473 : Nat, ∃ am473 : Option Addr, ∃ pm473 : Option Nat, ∃ cm473 : Nat, ∃ Fm473 : Nat → Value, EnvHas e [(2, .slice ascript3 script3.length cscript3), (13, .slice along154 list2.length clong154), (14, .pointer (some ⟨b468, 0, none⟩)), (15, .pointer (some ⟨b472, 0, none⟩))] ∧ St B (w0.on [mapR kv2 D71 [] m470 y_mp471]) (⟨some b468, 0, 1, fun _ => .int .i64 y_m469, true⟩ :: ⟨some b468, 1, 1, fun _ => .map (some m470), true⟩ :: ⟨pm473, 0, cm473 * 34, Fm473, true⟩ :: ⟨some b472, 0, 1, fun _ => .slice am473 n_m473 cm473, true⟩ :: ⟨some b472, 1, 1, fun _ => .int .i64 y_m474, true⟩ :: ⟨plong154, 0, clong154 * 34, Flong154, true⟩ :: L) w ∧ LO D81 [] am473 pm473 n_m473 cm473 Fm473 y_m473) ?_ ?_
      ·
        replace hR := hX475
        refine GL.next fun K476 hK476 => ?_
        refine W.regionT [(0, true), (1, true), (2, false), (3, true), (4, true), (5, true), (6, true), (7, true)] (by kernel_rfl) ?_
        refine Plan.move_int rfl rfl ?_
        refine Plan.move_slice rfl rfl ?_
        rcases hR with ⟨x_478, hr477, hR⟩ | ⟨x_479, x_480, x_481, hr477, hR⟩
        ·
          refine Plan.call (vs := [.int .i64 most1, .slice along154 list2.length clong154]) rfl FSkipsExact.call52 rfl (skips_Load_ok (by exact (LV.sgl0 (LO.lvf D81_flat hlong154 0 rfl) (hi := list2.length) hc189)) hr477 h187) ?_
          rintro _ w482 ⟨rfl, h482⟩
          refine ⟨_, rfl, .inl ⟨PIn.keep (by exact PIn.nil) h482, ?_⟩⟩
          refine Plan.move_tuple rfl rfl ?_
          refine Plan.extract_ptr rfl rfl rfl ?_
          refine Plan.extract_int rfl rfl rfl ?_
          refine Plan.assign_ptr rfl rfl ?_
          refine Plan.assign_int rfl rfl ?_
          refine Plan.nil ?_
          refine hK476 _ _ ?_; clear hK476
          refine GL.next fun K483 hK483 => ?_
          refine W.regionT [(0, true), (1, true), (2, false), (3, true), (4, true), (5, true), (6, true), (7, true)] (by kernel_rfl) ?_
          refine Plan.move_int rfl rfl ?_
          refine Plan.move_slice rfl rfl ?_
          rcases hR with ⟨x_485, hr484, hR⟩ | ⟨x_486, x_487, x_488, hr484, hR⟩
          ·
            refine Plan.call (vs := [.int .i64 most1, .slice alist2 list2.length clist2]) rfl FSkipsExact.call53 rfl (letheref15_Load_ok (by exact (hlist2.app [_, _, _, _])) hr484 h482) ?_
            rintro _ w489 ⟨rfl, h489⟩
            refine ⟨_, rfl, .inl ⟨PIn.keep (by exact PIn.nil) h489, ?_⟩⟩
            refine Plan.move_tuple rfl rfl ?_
            refine Plan.extract_ptr rfl rfl rfl ?_
            refine Plan.extract_int rfl rfl rfl ?_
            refine Plan.assign_ptr rfl rfl ?_
            refine Plan.assign_int rfl rfl ?_
            refine Plan.nil ?_
            refine hK483 _ _ ?_; clear hK483
            refine GL.next fun K490 hK490 => ?_
            refine W.seq_k fun K525 hK525 => ?_
            obtain ⟨t538, hX539, hR0539⟩ := hR
            refine W.cutN (fun e w => ∃ y_t538 : Bool, (t538 = y_t538) ∧ EnvHas e [(2, .slice ascript3 script3.length cscript3), (13, .slice along154 list2.length clong154), (14, .pointer none), (15, .pointer none), (97, .bool y_t538)] ∧ St B w0 (⟨plong154, 0, clong154 * 34, Flong154, true⟩ :: L) w) ?_ ?_
            ·
              replace hR := hX539
              refine W.regionD FSkipsExact.mixed [(0, true), (1, true), (2, true), (3, true), (4, true), (5, true), (6, true), (7, true), (8, true), (9, true), (10, true), (11, true), (12, true), (13, false), (14, true), (15, true), (16, true), (17, true), (18, true), (19, true), (20, true), (21, true), (22, true), (23, true), (24, true), (25, true), (26, true), (27, true), (28, true), (29, true), (30, true), (31, true), (32, true), (33, true), (34, true)] (by kernel_rfl) ?_
              have h540 := h489.drew
              refine Plan.move_int rfl rfl ?_
              refine Plan.move_int rfl rfl ?_
              by_cases hc541 : x_478 ≠ x_485
              ·
                replace hR := ifT hR hc541
                refine Plan.cmpV (a := (((x_478 : Nat) : Int) : Int)) (b := (((x_485 : Nat) : Int) : Int)) (p := x_478 ≠ x_485) (v := true) rfl rfl rfl rfl icmp_neN (decide_eq_true hc541) ?_
                refine Plan.move_bool rfl rfl ?_
                refine Plan.passed rfl ?_
                refine Plan.passed rfl ?_
                refine Plan.passed rfl ?_
                refine Plan.passed rfl ?_
                refine Plan.passed rfl ?_
                refine Plan.pickTb rfl rfl rfl ?_
                refine Plan.move_bool rfl rfl ?_
                refine Plan.passed rfl ?_
                refine Plan.passed rfl ?_
                refine Plan.passed rfl ?_
                refine Plan.passed rfl ?_
                refine Plan.pickTb rfl rfl rfl ?_
                refine Plan.move_bool rfl rfl ?_
                refine Plan.passed rfl ?_
                refine Plan.passed rfl ?_
                refine Plan.passed rfl ?_
                refine Plan.passed rfl ?_
                refine Plan.passed rfl ?_
                refine Plan.passed rfl ?_
                refine Plan.passed rfl ?_
                refine Plan.pickTb rfl rfl rfl ?_
                refine Plan.move_bool rfl rfl ?_
                refine Plan.passed rfl ?_
                refine Plan.passed rfl ?_
                refine Plan.passed rfl ?_
                refine Plan.passed rfl ?_
                refine Plan.passed rfl ?_
                refine Plan.passed rfl ?_
                refine Plan.passed rfl ?_
                refine Plan.passed rfl ?_
                refine Plan.pickTb rfl rfl rfl ?_
                refine Plan.nil ?_
                have h542 := St.pickT (C := [_, _, _, _]) h540 [0] (by decide)
                simp only [pick, List.filterMap_cons, List.filterMap_nil, List.getElem?_cons_zero, List.getElem?_cons_succ, List.cons_append, List.nil_append] at h542
                exact ⟨true, hR, (EnvHas.cons rfl (EnvHas.cons rfl (EnvHas.cons rfl (EnvHas.cons rfl (EnvHas.cons rfl EnvHas.nil))))), h542⟩
              ·
                replace hR := ifF hR hc541
                refine Plan.cmpV (a := (((x_478 : Nat) : Int) : Int)) (b := (((x_485 : Nat) : Int) : Int)) (p := x_478 ≠ x_485) (v := false) rfl rfl rfl rfl icmp_neN (decide_eq_false hc541) ?_
                refine Plan.move_bool rfl rfl ?_
                refine Plan.move_ptr rfl rfl ?_
                refine Plan.eqNil (b := true) FSkipsExact.ptr67 rfl rfl rfl rfl ?_
                refine Plan.move_ptr rfl rfl ?_
                refine Plan.eqNil (b := true) FSkipsExact.ptr103 rfl rfl rfl rfl ?_
                refine Plan.neBoolV (v := false) FSkipsExact.bool4 rfl rfl rfl rfl ?_
                refine Plan.pickFb rfl rfl rfl ?_
                refine Plan.move_bool rfl rfl ?_
                refine Plan.move_slice rfl rfl ?_
                refine Plan.move_slice rfl rfl ?_
                obtain ⟨x_544, hr543, hR⟩ := hR
                refine Plan.call (vs := [.slice along154 list2.length clong154, .slice alist2 list2.length clist2]) rfl FSkipsExact.call50 rfl (lethelaw15_sameList_ok (by exact (LV.sgl0 (LO.lvf D81_flat hlong154 0 rfl) (hi := list2.length) hc189)) (by exact (hlist2.app [_, _, _, _])) hr543 h540) ?_
                rintro _ w545 ⟨rfl, h545⟩
                refine ⟨_, rfl, .inl ⟨PIn.keep (by exact PIn.nil) h545, ?_⟩⟩
                by_cases hc546 : x_544 = true
                ·
                  replace hR := ifT hR hc546
                  obtain rfl : x_544 = true := hc546
                  refine Plan.notT rfl rfl ?_
                  refine Plan.pickFb rfl rfl rfl ?_
                  refine Plan.move_bool rfl rfl ?_
                  refine Plan.move_slice rfl rfl ?_
                  refine Plan.move_slice rfl rfl ?_
                  refine Plan.len FSkipsExact.isl78 rfl rfl ?_
                  obtain ⟨hc547, hR⟩ := hR
                  refine Plan.idxLVS (D := D81) (j := list2.length) h545 (LO.lvf D81_flat hlong154 0 rfl) FSkipsExact.sl78 rfl rfl rfl hc547 ?_
                  refine Plan.loadLV (D := D81) (X := long154) (j := list2.length) (sz := 34) h545 (0#32, 0#32, (fun _ => 0#8)) (LO.lvf D81_flat hlong154 0 rfl) rfl rfl hc547 rfl FSkipsExact.agg81 fun b548 r548 hs548 hr548 => ?_
                  refine Plan.loadA h545 rfl rfl (.cons 1 rfl (.cons 2 rfl (.cons 3 rfl .nil))) FSkipsExact.agg81 ?_
                  by_cases hc549 : ((decide ((long154.getD list2.length (0#32, 0#32, (fun _ => 0#8))).1 = 66#32)) && ((decide ((long154.getD list2.length (0#32, 0#32, (fun _ => 0#8))).2.1 = 0#32)) && ((eqB 32 ((long154.getD list2.length (0#32, 0#32, (fun _ => 0#8))).2.2) (fun _ => 0#8)) && true))) = true
                  ·
                    replace hR := ifT hR hc549
                    refine Plan.neStrV' (c := true) FSkipsExact.eqg81 rfl rfl rfl (EqV.struct (d := 9999) (l := [(73, 0), (73, 1), (71, 2)]) FSkipsExact.flds81 (.one [] [(1, fun _ => VU .u32 ((long154.getD list2.length (0#32, 0#32, (fun _ => 0#8))).2.1)), (32, fun q => VU .u8 (((long154.getD list2.length (0#32, 0#32, (fun _ => 0#8))).2.2) q))] [] [(1, fun _ => VU .u32 (0#32)), (32, fun q => VU .u8 ((fun _ => 0#8) q))] (fun _ => VU .u32 ((long154.getD list2.length (0#32, 0#32, (fun _ => 0#8))).1)) (fun _ => VU .u32 (66#32)) rfl rfl rfl rfl FSkipsExact.sc73 rfl rfl (EqV.u (d := 9998) (a := ((long154.getD list2.length (0#32, 0#32, (fun _ => 0#8))).1)) (b := (66#32)) FSkipsExact.int73) (.one [(1, fun _ => VU .u32 ((long154.getD list2.length (0#32, 0#32, (fun _ => 0#8))).1))] [(32, fun q => VU .u8 (((long154.getD list2.length (0#32, 0#32, (fun _ => 0#8))).2.2) q))] [(1, fun _ => VU .u32 (66#32))] [(32, fun q => VU .u8 ((fun _ => 0#8) q))] (fun _ => VU .u32 ((long154.getD list2.length (0#32, 0#32, (fun _ => 0#8))).2.1)) (fun _ => VU .u32 (0#32)) rfl rfl rfl rfl FSkipsExact.sc73 rfl rfl (EqV.u (d := 9998) (a := ((long154.getD list2.length (0#32, 0#32, (fun _ => 0#8))).2.1)) (b := (0#32)) FSkipsExact.int73) (.agg [(1, fun _ => VU .u32 ((long154.getD list2.length (0#32, 0#32, (fun _ => 0#8))).1)), (1, fun _ => VU .u32 ((long154.getD list2.length (0#32, 0#32, (fun _ => 0#8))).2.1))] [(32, fun q => VU .u8 (((long154.getD list2.length (0#32, 0#32, (fun _ => 0#8))).2.2) q))] [] [(1, fun _ => VU .u32 (66#32)), (1, fun _ => VU .u32 (0#32))] [(32, fun q => VU .u8 ((fun _ => 0#8) q))] [] rfl rfl rfl rfl FSkipsExact.agg71 FSkipsExact.agg71 (EqV.arr (d := 9997) (F := ((long154.getD list2.length (0#32, 0#32, (fun _ => 0#8))).2.2)) (G := (fun _ => 0#8)) FSkipsExact.arrI71) .nil)))) hc549 ?_
                    refine Plan.pickFb rfl rfl rfl ?_
                    refine Plan.move_bool rfl rfl ?_
                    refine Plan.move_slice rfl rfl ?_
                    refine Plan.move_slice rfl rfl ?_
                    refine Plan.len FSkipsExact.isl78 rfl rfl ?_
                    obtain ⟨hc550, hR⟩ := hR
                    refine Plan.addN (a := list2.length) (b := 1) rfl rfl rfl (by omega) ?_
                    obtain ⟨hc551, hR⟩ := hR
                    refine Plan.idxLVS (D := D81) (j := (list2.length + 1)) h545 (LO.lvf D81_flat hlong154 0 rfl) FSkipsExact.sl78 rfl rfl rfl hc551 ?_
                    refine Plan.loadLV (D := D81) (X := long154) (j := (list2.length + 1)) (sz := 34) h545 (0#32, 0#32, (fun _ => 0#8)) (LO.lvf D81_flat hlong154 0 rfl) rfl rfl hc551 rfl FSkipsExact.agg81 fun b552 r552 hs552 hr552 => ?_
                    refine Plan.loadA h545 rfl rfl (.cons 1 rfl (.cons 2 rfl (.cons 3 rfl .nil))) FSkipsExact.agg81 ?_
                    refine Plan.neStrV' (c := ((decide ((long154.getD (list2.length + 1) (0#32, 0#32, (fun _ => 0#8))).1 = 66#32)) && ((decide ((long154.getD (list2.length + 1) (0#32, 0#32, (fun _ => 0#8))).2.1 = 0#32)) && ((eqB 32 ((long154.getD (list2.length + 1) (0#32, 0#32, (fun _ => 0#8))).2.2) (fun _ => 0#8)) && true)))) FSkipsExact.eqg81 rfl rfl rfl (EqV.struct (d := 9999) (l := [(73, 0), (73, 1), (71, 2)]) FSkipsExact.flds81 (.one [] [(1, fun _ => VU .u32 ((long154.getD (list2.length + 1) (0#32, 0#32, (fun _ => 0#8))).2.1)), (32, fun q => VU .u8 (((long154.getD (list2.length + 1) (0#32, 0#32, (fun _ => 0#8))).2.2) q))] [] [(1, fun _ => VU .u32 (0#32)), (32, fun q => VU .u8 ((fun _ => 0#8) q))] (fun _ => VU .u32 ((long154.getD (list2.length + 1) (0#32, 0#32, (fun _ => 0#8))).1)) (fun _ => VU .u32 (66#32)) rfl rfl rfl rfl FSkipsExact.sc73 rfl rfl (EqV.u (d := 9998) (a := ((long154.getD (list2.length + 1) (0#32, 0#32, (fun _ => 0#8))).1)) (b := (66#32)) FSkipsExact.int73) (.one [(1, fun _ => VU .u32 ((long154.getD (list2.length + 1) (0#32, 0#32, (fun _ => 0#8))).1))] [(32, fun q => VU .u8 (((long154.getD (list2.length + 1) (0#32, 0#32, (fun _ => 0#8))).2.2) q))] [(1, fun _ => VU .u32 (66#32))] [(32, fun q => VU .u8 ((fun _ => 0#8) q))] (fun _ => VU .u32 ((long154.getD (list2.length + 1) (0#32, 0#32, (fun _ => 0#8))).2.1)) (fun _ => VU .u32 (0#32)) rfl rfl rfl rfl FSkipsExact.sc73 rfl rfl (EqV.u (d := 9998) (a := ((long154.getD (list2.length + 1) (0#32, 0#32, (fun _ => 0#8))).2.1)) (b := (0#32)) FSkipsExact.int73) (.agg [(1, fun _ => VU .u32 ((long154.getD (list2.length + 1) (0#32, 0#32, (fun _ => 0#8))).1)), (1, fun _ => VU .u32 ((long154.getD (list2.length + 1) (0#32, 0#32, (fun _ => 0#8))).2.1))] [(32, fun q => VU .u8 (((long154.getD (list2.length + 1) (0#32, 0#32, (fun _ => 0#8))).2.2) q))] [] [(1, fun _ => VU .u32 (66#32)), (1, fun _ => VU .u32 (0#32))] [(32, fun q => VU .u8 ((fun _ => 0#8) q))] [] rfl rfl rfl rfl FSkipsExact.agg71 FSkipsExact.agg71 (EqV.arr (d := 9997) (F := ((long154.getD (list2.length + 1) (0#32, 0#32, (fun _ => 0#8))).2.2)) (G := (fun _ => 0#8)) FSkipsExact.arrI71) .nil)))) rfl ?_
                    refine Plan.pickFb rfl rfl rfl ?_
                    refine Plan.nil ?_
                    have h553 := St.pickT (C := [_, _, _, _]) h545 [0] (by decide)
                    simp only [pick, List.filterMap_cons, List.filterMap_nil, List.getElem?_cons_zero, List.getElem?_cons_succ, List.cons_append, List.nil_append] at h553
                    exact ⟨(!((decide ((long154.getD (list2.length + 1) (0#32, 0#32, (fun _ => 0#8))).1 = 66#32)) && ((decide ((long154.getD (list2.length + 1) (0#32, 0#32, (fun _ => 0#8))).2.1 = 0#32)) && ((eqB 32 ((long154.getD (list2.length + 1) (0#32, 0#32, (fun _ => 0#8))).2.2) (fun _ => 0#8)) && true)))), hR, (EnvHas.cons rfl (EnvHas.cons rfl (EnvHas.cons rfl (EnvHas.cons rfl (EnvHas.cons rfl EnvHas.nil))))), h553⟩
                  ·
                    replace hR := ifF hR hc549
                    refine Plan.neStrV' (c := false) FSkipsExact.eqg81 rfl rfl rfl (EqV.struct (d := 9999) (l := [(73, 0), (73, 1), (71, 2)]) FSkipsExact.flds81 (.one [] [(1, fun _ => VU .u32 ((long154.getD list2.length (0#32, 0#32, (fun _ => 0#8))).2.1)), (32, fun q => VU .u8 (((long154.getD list2.length (0#32, 0#32, (fun _ => 0#8))).2.2) q))] [] [(1, fun _ => VU .u32 (0#32)), (32, fun q => VU .u8 ((fun _ => 0#8) q))] (fun _ => VU .u32 ((long154.getD list2.length (0#32, 0#32, (fun _ => 0#8))).1)) (fun _ => VU .u32 (66#32)) rfl rfl rfl rfl FSkipsExact.sc73 rfl rfl (EqV.u (d := 9998) (a := ((long154.getD list2.length (0#32, 0#32, (fun _ => 0#8))).1)) (b := (66#32)) FSkipsExact.int73) (.one [(1, fun _ => VU .u32 ((long154.getD list2.length (0#32, 0#32, (fun _ => 0#8))).1))] [(32, fun q => VU .u8 (((long154.getD list2.length (0#32, 0#32, (fun _ => 0#8))).2.2) q))] [(1, fun _ => VU .u32 (66#32))] [(32, fun q => VU .u8 ((fun _ => 0#8) q))] (fun _ => VU .u32 ((long154.getD list2.length (0#32, 0#32, (fun _ => 0#8))).2.1)) (fun _ => VU .u32 (0#32)) rfl rfl rfl rfl FSkipsExact.sc73 rfl rfl (EqV.u (d := 9998) (a := ((long154.getD list2.length (0#32, 0#32, (fun _ => 0#8))).2.1)) (b := (0#32)) FSkipsExact.int73) (.agg [(1, fun _ => VU .u32 ((long154.getD list2.length (0#32, 0#32, (fun _ => 0#8))).1)), (1, fun _ => VU .u32 ((long154.getD list2.length (0#32, 0#32, (fun _ => 0#8))).2.1))] [(32, fun q => VU .u8 (((long154.getD list2.length (0#32, 0#32, (fun _ => 0#8))).2.2) q))] [] [(1, fun _ => VU .u32 (66#32)), (1, fun _ => VU .u32 (0#32))] [(32, fun q => VU .u8 ((fun _ => 0#8) q))] [] rfl rfl rfl rfl FSkipsExact.agg71 FSkipsExact.agg71 (EqV.arr (d := 9997) (F := ((long154.getD list2.length (0#32, 0#32, (fun _ => 0#8))).2.2)) (G := (fun _ => 0#8)) FSkipsExact.arrI71) .nil)))) (Bool.eq_false_iff.2 hc549) ?_
                    refine Plan.pickFb rfl rfl rfl ?_
                    refine Plan.move_bool rfl rfl ?_
                    refine Plan.passed rfl ?_
                    refine Plan.passed rfl ?_
                    refine Plan.passed rfl ?_
                    refine Plan.passed rfl ?_
                    refine Plan.passed rfl ?_
                    refine Plan.passed rfl ?_
                    refine Plan.passed rfl ?_
                    refine Plan.passed rfl ?_
                    refine Plan.pickTb rfl rfl rfl ?_
                    refine Plan.nil ?_
                    have h554 := St.pickT (C := [_, _, _, _]) h545 [0] (by decide)
                    simp only [pick, List.filterMap_cons, List.filterMap_nil, List.getElem?_cons_zero, List.getElem?_cons_succ, List.cons_append, List.nil_append] at h554
                    exact ⟨true, hR, (EnvHas.cons rfl (EnvHas.cons rfl (EnvHas.cons rfl (EnvHas.cons rfl (EnvHas.cons rfl EnvHas.nil))))), h554⟩
                ·
                  replace hR := ifF hR hc546
                  obtain rfl : x_544 = false := Bool.eq_false_iff.2 hc546
                  refine Plan.notF rfl rfl ?_
                  refine Plan.pickFb rfl rfl rfl ?_
                  refine Plan.move_bool rfl rfl ?_
                  refine Plan.passed rfl ?_
                  refine Plan.passed rfl ?_
                  refine Plan.passed rfl ?_
                  refine Plan.passed rfl ?_
                  refine Plan.passed rfl ?_
                  refine Plan.passed rfl ?_
                  refine Plan.passed rfl ?_
                  refine Plan.pickTb rfl rfl rfl ?_
                  refine Plan.move_bool rfl rfl ?_
                  refine Plan.passed rfl ?_
                  refine Plan.passed rfl ?_
                  refine Plan.passed rfl ?_
                  refine Plan.passed rfl ?_
                  refine Plan.passed rfl ?_
                  refine Plan.passed rfl ?_
                  refine Plan.passed rfl ?_
                  refine Plan.passed rfl ?_
                  refine Plan.pickTb rfl rfl rfl ?_
                  refine Plan.nil ?_
                  have h555 := St.pickT (C := [_, _, _, _]) h545 [0] (by decide)
                  simp only [pick, List.filterMap_cons, List.filterMap_nil, List.getElem?_cons_zero, List.getElem?_cons_succ, List.cons_append, List.nil_append] at h555
                  exact ⟨true, hR, (EnvHas.cons rfl (EnvHas.cons rfl (EnvHas.cons rfl (EnvHas.cons rfl (EnvHas.cons rfl EnvHas.nil))))), h555⟩
            ·
              rintro ev556 wl556 ⟨y_t538, hy556_0, he556, h556⟩
              subst hy556_0
              obtain ⟨ev556, rfl⟩ := he556.open
              replace hR := hR0539
              refine hK525 _ _ ?_; clear hK525
              by_cases hc557 : t538 = true
              ·
                replace hR := ifT hR hc557
                refine W.condT (congrArg Value.bool hc557) ?_
                refine W.seq_k fun K558 hK558 => ?_
                refine W.regionT [(0, true)] (by kernel_rfl) ?_
                refine Plan.assign_bool rfl rfl ?_
                refine Plan.nil ?_
                refine hK558 _ _ ?_; clear hK558
                refine W.ret (thenR_ret (thenR_ret (thenR_ret (finR_ret ?_))))
                have h559 := St.pickT (C := [_]) h556 [] (by decide)
                simp only [pick, List.filterMap_cons, List.filterMap_nil, List.getElem?_cons_zero, List.getElem?_cons_succ, List.cons_append, List.nil_append] at h559
                replace hR := hR.2
                subst r
                refine RetOk.mk (.tmp_bool rfl .nil) ?_
                exact ⟨rfl, h559⟩
              ·
                replace hR := ifF hR hc557
                refine W.condF (congrArg Value.bool (Bool.eq_false_iff.2 hc557)) ?_
                refine W.skip ?_
                refine hK490 _ _ ?_; clear hK490
                refine GL.one ?_
                refine W.seq_k fun K560 hK560 => ?_
                refine W.regionT [(0, true), (1, true)] (by kernel_rfl) ?_
                refine Plan.move_ptr rfl rfl ?_
                refine Plan.eqNil (b := true) FSkipsExact.ptr67 rfl rfl rfl rfl ?_
                refine Plan.nil ?_
                refine hK560 _ _ ?_; clear hK560
                refine W.condT rfl ?_
                refine W.seq_k fun K561 hK561 => ?_
                refine W.regionT [(0, false), (1, true), (2, true), (3, true), (4, true), (5, true)] (by kernel_rfl) ?_
                rcases hR with ⟨x_563, hr562, hR⟩ | ⟨x_564, x_565, x_566, hr562, hR⟩
                ·
                  refine Plan.call (vs := [VN 4]) rfl FSkipsExact.call35 rfl (skips_New_ok  hr562 h556) ?_
                  rintro _ w567 ⟨rfl, h567⟩
                  refine ⟨_, rfl, .inl ⟨PIn.keep (by exact PIn.nil) h567, ?_⟩⟩
                  refine Plan.move_tuple rfl rfl ?_
                  refine Plan.extract_ptr rfl rfl rfl ?_
                  refine Plan.extract_int rfl rfl rfl ?_
                  refine Plan.assign_ptr rfl rfl ?_
                  refine Plan.assign_int rfl rfl ?_
                  refine Plan.nil ?_
                  refine hK561 _ _ ?_; clear hK561
                  refine W.seq_k fun K568 hK568 => ?_
                  refine W.regionT [(0, false), (1, true), (2, true), (3, true), (4, true), (5, true)] (by kernel_rfl) ?_
                  rcases hR with ⟨x_570, hr569, hR⟩ | ⟨x_571, x_572, x_573, hr569, hR⟩
                  ·
                    refine Plan.call (vs := [VN 4]) rfl FSkipsExact.call51 rfl (letheref15_New_ok  hr569 h567) ?_
                    rintro _ w574 ⟨rfl, h574⟩
                    refine ⟨_, rfl, .inl ⟨PIn.keep (by exact PIn.nil) h574, ?_⟩⟩
                    refine Plan.move_tuple rfl rfl ?_
                    refine Plan.extract_ptr rfl rfl rfl ?_
                    refine Plan.extract_int rfl rfl rfl ?_
                    refine Plan.assign_ptr rfl rfl ?_
                    refine Plan.assign_int rfl rfl ?_
                    refine Plan.nil ?_
                    refine hK568 _ _ ?_; clear hK568
                    refine W.seq_k fun K575 hK575 => ?_
                    refine W.regionT [(0, true), (1, true), (2, true), (3, true), (4, true), (5, true), (6, true), (7, true), (8, true), (9, true)] (by kernel_rfl) ?_
                    refine Plan.move_ptr rfl rfl ?_
                    refine Plan.eqNil (b := true) FSkipsExact.ptr67 rfl rfl rfl rfl ?_
                    refine Plan.move_bool rfl rfl ?_
                    refine Plan.passed rfl ?_
                    refine Plan.passed rfl ?_
                    refine Plan.pickTb rfl rfl rfl ?_
                    refine Plan.move_bool rfl rfl ?_
                    refine Plan.passed rfl ?_
                    refine Plan.passed rfl ?_
                    refine Plan.pickTb rfl rfl rfl ?_
                    refine Plan.nil ?_
                    refine hK575 _ _ ?_; clear hK575
                    refine W.condT rfl ?_
                    refine W.seq_k fun K576 hK576 => ?_
                    refine W.regionT [(0, true)] (by kernel_rfl) ?_
                    refine Plan.assign_bool rfl rfl ?_
                    refine Plan.nil ?_
                    refine hK576 _ _ ?_; clear hK576
                    refine W.ret (thenR_ret (thenR_ret (finR_ret ?_)))
                    have h577 := St.pickT (C := [_]) h574 [] (by decide)
                    simp only [pick, List.filterMap_cons, List.filterMap_nil, List.getElem?_cons_zero, List.getElem?_cons_succ, List.cons_append, List.nil_append] at h577
                    replace hR := hR.2
                    subst r
                    refine RetOk.mk (.tmp_bool rfl .nil) ?_
                    exact ⟨rfl, h577⟩
                  ·
                    refine Plan.call (vs := [VN 4]) rfl FSkipsExact.call51 rfl (letheref15_New_ok  hr569 h567) ?_
                    rintro _ w584 ⟨b0_578, aw0_0_579, pw0_0_580, nw0_0_581, cw0_0_582, Fw0_0_583, rfl, h584, hf584_0⟩
                    try dsimp only at hf584_0
                    obtain rfl := hf584_0.hl
                    refine ⟨_, rfl, .inl ⟨PIn.keep (by exact PIn.nil) h584, ?_⟩⟩
                    refine Plan.move_tuple rfl rfl ?_
                    refine Plan.extract_ptr rfl rfl rfl ?_
                    refine Plan.extract_int rfl rfl rfl ?_
                    refine Plan.assign_ptr rfl rfl ?_
                    refine Plan.assign_int rfl rfl ?_
                    refine Plan.nil ?_
                    refine hK568 _ _ ?_; clear hK568
                    refine W.seq_k fun K585 hK585 => ?_
                    refine W.regionT [(0, true), (1, true), (2, true), (3, true), (4, true), (5, true), (6, true), (7, true), (8, true), (9, true)] (by kernel_rfl) ?_
                    refine Plan.move_ptr rfl rfl ?_
                    refine Plan.eqNil (b := true) FSkipsExact.ptr67 rfl rfl rfl rfl ?_
                    refine Plan.move_bool rfl rfl ?_
                    refine Plan.passed rfl ?_
                    refine Plan.passed rfl ?_
                    refine Plan.pickTb rfl rfl rfl ?_
                    refine Plan.move_bool rfl rfl ?_
                    refine Plan.passed rfl ?_
                    refine Plan.passed rfl ?_
                    refine Plan.pickTb rfl rfl rfl ?_
                    refine Plan.nil ?_
                    refine hK585 _ _ ?_; clear hK585
                    refine W.condT rfl ?_
                    refine W.seq_k fun K586 hK586 => ?_
                    refine W.regionT [(0, true)] (by kernel_rfl) ?_
                    refine Plan.assign_bool rfl rfl ?_
                    refine Plan.nil ?_
                    refine hK586 _ _ ?_; clear hK586
                    refine W.ret (thenR_ret (thenR_ret (finR_ret ?_)))
                    have h587 := St.pickT (C := [_, _, _, _]) h584 [] (by decide)
                    simp only [pick, List.filterMap_cons, List.filterMap_nil, List.getElem?_cons_zero, List.getElem?_cons_succ, List.cons_append, List.nil_append] at h587
                    replace hR := hR.2
                    subst r
                    refine RetOk.mk (.tmp_bool rfl .nil) ?_
                    exact ⟨rfl, h587⟩
                ·
                  refine Plan.call (vs := [VN 4]) rfl FSkipsExact.call35 rfl (skips_New_ok (w0 := w0) hr562 h556) ?_
                  rintro _ w590 ⟨b0_588, mw0_1_589, rfl, h590⟩
                  replace h590 : St B (w0.on [mapR kv2 D71 [] mw0_1_589 x_565]) _ _ := h590
                  refine ⟨_, rfl, .inl ⟨PIn.keep (by exact PIn.nil) h590, ?_⟩⟩
                  refine Plan.move_tuple rfl rfl ?_
                  refine Plan.extract_ptr rfl rfl rfl ?_
                  refine Plan.extract_int rfl rfl rfl ?_
                  refine Plan.assign_ptr rfl rfl ?_
                  refine Plan.assign_int rfl rfl ?_
                  refine Plan.nil ?_
                  refine hK561 _ _ ?_; clear hK561
                  refine W.seq_k fun K591 hK591 => ?_
                  refine W.regionT [(0, false), (1, true), (2, true), (3, true), (4, true), (5, true)] (by kernel_rfl) ?_
                  rcases hR with ⟨x_593, hr592, hR⟩ | ⟨x_594, x_595, x_596, hr592, hR⟩
                  ·
                    refine Plan.call (vs := [VN 4]) rfl FSkipsExact.call51 rfl (letheref15_New_ok  hr592 h590) ?_
                    rintro _ w597 ⟨rfl, h597⟩
                    refine ⟨_, rfl, .inl ⟨PIn.keep (by exact PIn.nil) h597, ?_⟩⟩
                    refine Plan.move_tuple rfl rfl ?_
                    refine Plan.extract_ptr rfl rfl rfl ?_
                    refine Plan.extract_int rfl rfl rfl ?_
                    refine Plan.assign_ptr rfl rfl ?_
                    refine Plan.assign_int rfl rfl ?_
                    refine Plan.nil ?_
                    refine hK591 _ _ ?_; clear hK591
                    refine W.seq_k fun K598 hK598 => ?_
                    refine W.regionT [(0, true), (1, true), (2, true), (3, true), (4, true), (5, true), (6, true), (7, true), (8, true), (9, true)] (by kernel_rfl) ?_
                    refine Plan.move_ptr rfl rfl ?_
                    refine Plan.eqNil (b := false) FSkipsExact.ptr67 rfl rfl rfl rfl ?_
                    refine Plan.move_bool rfl rfl ?_
                    refine Plan.move_int rfl rfl ?_
                    by_cases hc599 : x_566 ≠ 0
                    ·
                      replace hR := ifT hR hc599
                      refine Plan.cmpV (a := (((x_566 : Nat) : Int) : Int)) (b := (0 : Int)) (p := x_566 ≠ 0) (v := true) rfl rfl rfl rfl icmp_neN (decide_eq_true hc599) ?_
                      refine Plan.pickFb rfl rfl rfl ?_
                      refine Plan.move_bool rfl rfl ?_
                      refine Plan.passed rfl ?_
                      refine Plan.passed rfl ?_
                      refine Plan.pickTb rfl rfl rfl ?_
                      refine Plan.nil ?_
                      refine hK598 _ _ ?_; clear hK598
                      refine W.condT rfl ?_
                      refine W.seq_k fun K600 hK600 => ?_
                      refine W.regionT [(0, true)] (by kernel_rfl) ?_
                      refine Plan.assign_bool rfl rfl ?_
                      refine Plan.nil ?_
                      refine hK600 _ _ ?_; clear hK600
                      refine W.ret (thenR_ret (thenR_ret (finR_ret ?_)))
                      have h601 := St.pickT (C := [_, _, _]) h597 [] (by decide)
                      simp only [pick, List.filterMap_cons, List.filterMap_nil, List.getElem?_cons_zero, List.getElem?_cons_succ, List.cons_append, List.nil_append] at h601
                      have h602 : St B w0 _ _ := St.mpick (N := [mapR kv2 D71 [] mw0_1_589 x_565]) (N' := []) h601 [] (by decide) rfl
                      replace hR := hR.2
                      subst r
                      refine RetOk.mk (.tmp_bool rfl .nil) ?_
                      exact ⟨rfl, h602⟩
                    ·
                      replace hR := ifF hR hc599
                      refine Plan.cmpV (a := (((x_566 : Nat) : Int) : Int)) (b := (0 : Int)) (p := x_566 ≠ 0) (v := false) rfl rfl rfl rfl icmp_neN (decide_eq_false hc599) ?_
                      refine Plan.pickFb rfl rfl rfl ?_
                      refine Plan.move_bool rfl rfl ?_
                      refine Plan.move_int rfl rfl ?_
                      refine Plan.cmpP (a := (((x_593 : Nat) : Int) : Int)) (b := (0 : Int)) (p := x_593 ≠ 0) rfl rfl rfl rfl icmp_neN ?_
                      refine Plan.pickFb rfl rfl rfl ?_
                      refine Plan.nil ?_
                      refine hK598 _ _ ?_; clear hK598
                      by_cases hc603 : x_593 ≠ 0
                      ·
                        replace hR := ifT hR hc603
                        refine W.condT (congrArg Value.bool (decide_eq_true hc603)) ?_
                        refine W.seq_k fun K604 hK604 => ?_
                        refine W.regionT [(0, true)] (by kernel_rfl) ?_
                        refine Plan.assign_bool rfl rfl ?_
                        refine Plan.nil ?_
                        refine hK604 _ _ ?_; clear hK604
                        refine W.ret (thenR_ret (thenR_ret (finR_ret ?_)))
                        have h605 := St.pickT (C := [_, _, _]) h597 [] (by decide)
                        simp only [pick, List.filterMap_cons, List.filterMap_nil, List.getElem?_cons_zero, List.getElem?_cons_succ, List.cons_append, List.nil_append] at h605
                        have h606 : St B w0 _ _ := St.mpick (N := [mapR kv2 D71 [] mw0_1_589 x_565]) (N' := []) h605 [] (by decide) rfl
                        replace hR := hR.2
                        subst r
                        refine RetOk.mk (.tmp_bool rfl .nil) ?_
                        exact ⟨rfl, h606⟩
                      ·
                        replace hR := ifF hR hc603
                        refine W.condF (congrArg Value.bool (decide_eq_false hc603)) ?_
                        refine W.skip ?_
                        exact hR.elim
                  ·
                    refine Plan.call (vs := [VN 4]) rfl FSkipsExact.call51 rfl (letheref15_New_ok  hr592 h590) ?_
                    rintro _ w613 ⟨b0_607, aw0_0_608, pw0_0_609, nw0_0_610, cw0_0_611, Fw0_0_612, rfl, h613, hf613_0⟩
                    try dsimp only at hf613_0
                    obtain rfl := hf613_0.hl
                    refine ⟨_, rfl, .inl ⟨PIn.keep (by exact PIn.nil) h613, ?_⟩⟩
                    refine Plan.move_tuple rfl rfl ?_
                    refine Plan.extract_ptr rfl rfl rfl ?_
                    refine Plan.extract_int rfl rfl rfl ?_
                    refine Plan.assign_ptr rfl rfl ?_
                    refine Plan.assign_int rfl rfl ?_
                    refine Plan.nil ?_
                    refine hK591 _ _ ?_; clear hK591
                    refine W.seq_k fun K614 hK614 => ?_
                    refine W.regionT [(0, true), (1, true), (2, true), (3, true), (4, true), (5, true), (6, true), (7, true), (8, true), (9, true)] (by kernel_rfl) ?_
                    refine Plan.move_ptr rfl rfl ?_
                    refine Plan.eqNil (b := false) FSkipsExact.ptr67 rfl rfl rfl rfl ?_
                    refine Plan.move_bool rfl rfl ?_
                    refine Plan.move_int rfl rfl ?_
                    by_cases hc615 : x_566 ≠ 0
                    ·
                      replace hR := ifT hR hc615
                      refine Plan.cmpV (a := (((x_566 : Nat) : Int) : Int)) (b := (0 : Int)) (p := x_566 ≠ 0) (v := true) rfl rfl rfl rfl icmp_neN (decide_eq_true hc615) ?_
                      refine Plan.pickFb rfl rfl rfl ?_
                      refine Plan.move_bool rfl rfl ?_
                      refine Plan.passed rfl ?_
                      refine Plan.passed rfl ?_
                      refine Plan.pickTb rfl rfl rfl ?_
                      refine Plan.nil ?_
                      refine hK614 _ _ ?_; clear hK614
                      refine W.condT rfl ?_
                      refine W.seq_k fun K616 hK616 => ?_
                      refine W.regionT [(0, true)] (by kernel_rfl) ?_
                      refine Plan.assign_bool rfl rfl ?_
                      refine Plan.nil ?_
                      refine hK616 _ _ ?_; clear hK616
                      refine W.ret (thenR_ret (thenR_ret (finR_ret ?_)))
                      have h617 := St.pickT (C := [_, _, _, _, _, _]) h613 [] (by decide)
                      simp only [pick, List.filterMap_cons, List.filterMap_nil, List.getElem?_cons_zero, List.getElem?_cons_succ, List.cons_append, List.nil_append] at h617
                      have h618 : St B w0 _ _ := St.mpick (N := [mapR kv2 D71 [] mw0_1_589 x_565]) (N' := []) h617 [] (by decide) rfl
                      replace hR := hR.2
                      subst r
                      refine RetOk.mk (.tmp_bool rfl .nil) ?_
                      exact ⟨rfl, h618⟩
                    ·
                      replace hR := ifF hR hc615
                      refine Plan.cmpV (a := (((x_566 : Nat) : Int) : Int)) (b := (0 : Int)) (p := x_566 ≠ 0) (v := false) rfl rfl rfl rfl icmp_neN (decide_eq_false hc615) ?_
                      refine Plan.pickFb rfl rfl rfl ?_
                      refine Plan.move_bool rfl rfl ?_
                      refine Plan.move_int rfl rfl ?_
                      refine Plan.cmpP (a := (((x_596 : Nat) : Int) : Int)) (b := (0 : Int)) (p := x_596 ≠ 0) rfl rfl rfl rfl icmp_neN ?_
                      refine Plan.pickFb rfl rfl rfl ?_
                      refine Plan.nil ?_
                      refine hK614 _ _ ?_; clear hK614
                      by_cases hc619 : x_596 ≠ 0
                      ·
                        replace hR := ifT hR hc619
                        refine W.condT (congrArg Value.bool (decide_eq_true hc619)) ?_
                        refine W.seq_k fun K620 hK620 => ?_
                        refine W.regionT [(0, true)] (by kernel_rfl) ?_
                        refine Plan.assign_bool rfl rfl ?_
                        refine Plan.nil ?_
                        refine hK620 _ _ ?_; clear hK620
                        refine W.ret (thenR_ret (thenR_ret (finR_ret ?_)))
                        have h621 := St.pickT (C := [_, _, _, _, _, _]) h613 [] (by decide)
                        simp only [pick, List.filterMap_cons, List.filterMap_nil, List.getElem?_cons_zero, List.getElem?_cons_succ, List.cons_append, List.nil_append] at h621
                        have h622 : St B w0 _ _ := St.mpick (N := [mapR kv2 D71 [] mw0_1_589 x_565]) (N' := []) h621 [] (by decide) rfl
                        replace hR := hR.2
                        subst r
                        refine RetOk.mk (.tmp_bool rfl .nil) ?_
                        exact ⟨rfl, h622⟩
                      ·
                        replace hR := ifF hR hc619
                        refine W.condF (congrArg Value.bool (decide_eq_false hc619)) ?_
                        refine W.skip ?_
                        have h623 := St.pickT (C := [_, _, _, _, _, _]) h613 [3, 4, 1, 0, 2, 5] (by decide)
                        simp only [pick, List.filterMap_cons, List.filterMap_nil, List.getElem?_cons_zero, List.getElem?_cons_succ, List.cons_append, List.nil_append] at h623
                        exact ⟨x_564, x_565, x_594, x_595, hR, b0_588, mw0_1_589, b0_607, x_594.length, aw0_0_608, pw0_0_609, cw0_0_611, Fw0_0_612, (EnvHas.cons rfl (EnvHas.cons rfl (EnvHas.cons rfl (EnvHas.cons rfl EnvHas.nil)))), h623, hf613_0⟩
          ·
            refine Plan.call (vs := [.int .i64 most1, .slice alist2 list2.length clist2]) rfl FSkipsExact.call53 rfl (letheref15_Load_ok (by exact (hlist2.app [_, _, _, _])) hr484 h482) ?_
            rintro _ w630 ⟨b0_624, aw0_0_625, pw0_0_626, nw0_0_627, cw0_0_628, Fw0_0_629, rfl, h630, hf630_0⟩
            try dsimp only at hf630_0
            obtain rfl := hf630_0.hl
            refine ⟨_, rfl, .inl ⟨PIn.keep (by exact PIn.nil) h630, ?_⟩⟩
            refine Plan.move_tuple rfl rfl ?_
            refine Plan.extract_ptr rfl rfl rfl ?_
            refine Plan.extract_int rfl rfl rfl ?_
            refine Plan.assign_ptr rfl rfl ?_
            refine Plan.assign_int rfl rfl ?_
            refine Plan.nil ?_
            refine hK483 _ _ ?_; clear hK483
            refine GL.next fun K631 hK631 => ?_
            refine W.seq_k fun K642 hK642 => ?_
            obtain ⟨hX645, hR0645⟩ := hR
            refine W.cutN (fun e w => True ∧ EnvHas e [(2, .slice ascript3 script3.length cscript3), (13, .slice along154 list2.length clong154), (14, .pointer none), (15, .pointer (some ⟨b0_624, 0, none⟩)), (97, .bool true)] ∧ St B w0 (⟨some b0_624, 0, 1, fun _ => .slice aw0_0_625 x_486.length cw0_0_628, true⟩ :: ⟨pw0_0_626, 0, cw0_0_628 * 34, Fw0_0_629, true⟩ :: ⟨some b0_624, 1, 1, fun _ => .int .i64 x_487, true⟩ :: ⟨plong154, 0, clong154 * 34, Flong154, true⟩ :: L) w) ?_ ?_
            ·
              replace hR := hX645
              refine W.regionD FSkipsExact.mixed [(0, true), (1, true), (2, true), (3, true), (4, true), (5, true), (6, true), (7, true), (8, true), (9, true), (10, true), (11, true), (12, true), (13, false), (14, true), (15, true), (16, true), (17, true), (18, true), (19, true), (20, true), (21, true), (22, true), (23, true), (24, true), (25, true), (26, true), (27, true), (28, true), (29, true), (30, true), (31, true), (32, true), (33, true), (34, true)] (by kernel_rfl) ?_
              have h646 := h630.drew
              refine Plan.move_int rfl rfl ?_
              refine Plan.move_int rfl rfl ?_
              by_cases hc647 : x_478 ≠ x_488
              ·
                replace hR := ifT hR hc647
                refine Plan.cmpV (a := (((x_478 : Nat) : Int) : Int)) (b := (((x_488 : Nat) : Int) : Int)) (p := x_478 ≠ x_488) (v := true) rfl rfl rfl rfl icmp_neN (decide_eq_true hc647) ?_
                refine Plan.move_bool rfl rfl ?_
                refine Plan.passed rfl ?_
                refine Plan.passed rfl ?_
                refine Plan.passed rfl ?_
                refine Plan.passed rfl ?_
                refine Plan.passed rfl ?_
                refine Plan.pickTb rfl rfl rfl ?_
                refine Plan.move_bool rfl rfl ?_
                refine Plan.passed rfl ?_
                refine Plan.passed rfl ?_
                refine Plan.passed rfl ?_
                refine Plan.passed rfl ?_
                refine Plan.pickTb rfl rfl rfl ?_
                refine Plan.move_bool rfl rfl ?_
                refine Plan.passed rfl ?_
                refine Plan.passed rfl ?_
                refine Plan.passed rfl ?_
                refine Plan.passed rfl ?_
                refine Plan.passed rfl ?_
                refine Plan.passed rfl ?_
                refine Plan.passed rfl ?_
                refine Plan.pickTb rfl rfl rfl ?_
                refine Plan.move_bool rfl rfl ?_
                refine Plan.passed rfl ?_
                refine Plan.passed rfl ?_
                refine Plan.passed rfl ?_
                refine Plan.passed rfl ?_
                refine Plan.passed rfl ?_
                refine Plan.passed rfl ?_
                refine Plan.passed rfl ?_
                refine Plan.passed rfl ?_
                refine Plan.pickTb rfl rfl rfl ?_
                refine Plan.nil ?_
                have h648 := St.pickT (C := [_, _, _, _, _, _, _]) h646 [0, 1, 2, 3] (by decide)
                simp only [pick, List.filterMap_cons, List.filterMap_nil, List.getElem?_cons_zero, List.getElem?_cons_succ, List.cons_append, List.nil_append] at h648
                exact ⟨trivial, (EnvHas.cons rfl (EnvHas.cons rfl (EnvHas.cons rfl (EnvHas.cons rfl (EnvHas.cons rfl EnvHas.nil))))), h648⟩
              ·
                replace hR := ifF hR hc647
                refine Plan.cmpV (a := (((x_478 : Nat) : Int) : Int)) (b := (((x_488 : Nat) : Int) : Int)) (p := x_478 ≠ x_488) (v := false) rfl rfl rfl rfl icmp_neN (decide_eq_false hc647) ?_
                refine Plan.move_bool rfl rfl ?_
                refine Plan.move_ptr rfl rfl ?_
                refine Plan.eqNil (b := true) FSkipsExact.ptr67 rfl rfl rfl rfl ?_
                refine Plan.move_ptr rfl rfl ?_
                refine Plan.eqNil (b := false) FSkipsExact.ptr103 rfl rfl rfl rfl ?_
                refine Plan.neBoolV (v := true) FSkipsExact.bool4 rfl rfl rfl rfl ?_
                refine Plan.pickFb rfl rfl rfl ?_
                refine Plan.move_bool rfl rfl ?_
                refine Plan.passed rfl ?_
                refine Plan.passed rfl ?_
                refine Plan.passed rfl ?_
                refine Plan.passed rfl ?_
                refine Plan.pickTb rfl rfl rfl ?_
                refine Plan.move_bool rfl rfl ?_
                refine Plan.passed rfl ?_
                refine Plan.passed rfl ?_
                refine Plan.passed rfl ?_
                refine Plan.passed rfl ?_
                refine Plan.passed rfl ?_
                refine Plan.passed rfl ?_
                refine Plan.passed rfl ?_
                refine Plan.pickTb rfl rfl rfl ?_
                refine Plan.move_bool rfl rfl ?_
                refine Plan.passed rfl ?_
                refine Plan.passed rfl ?_
                refine Plan.passed rfl ?_
                refine Plan.passed rfl ?_
                refine Plan.passed rfl ?_
                refine Plan.passed rfl ?_
                refine Plan.passed rfl ?_
                refine Plan.passed rfl ?_
                refine Plan.pickTb rfl rfl rfl ?_
                refine Plan.nil ?_
                have h649 := St.pickT (C := [_, _, _, _, _, _, _]) h646 [0, 1, 2, 3] (by decide)
                simp only [pick, List.filterMap_cons, List.filterMap_nil, List.getElem?_cons_zero, List.getElem?_cons_succ, List.cons_append, List.nil_append] at h649
                exact ⟨trivial, (EnvHas.cons rfl (EnvHas.cons rfl (EnvHas.cons rfl (EnvHas.cons rfl (EnvHas.cons rfl EnvHas.nil))))), h649⟩
            ·
              rintro ev650 wl650 ⟨_, he650, h650⟩
              obtain ⟨ev650, rfl⟩ := he650.open
              replace hR := hR0645
              refine hK642 _ _ ?_; clear hK642
              refine W.condT rfl ?_
              refine W.seq_k fun K651 hK651 => ?_
              refine W.regionT [(0, true)] (by kernel_rfl) ?_
              refine Plan.assign_bool rfl rfl ?_
              refine Plan.nil ?_
              refine hK651 _ _ ?_; clear hK651
              refine W.ret (thenR_ret (thenR_ret (thenR_ret (finR_ret ?_))))
              have h652 := St.pickT (C := [_, _, _, _]) h650 [] (by decide)
              simp only [pick, List.filterMap_cons, List.filterMap_nil, List.getElem?_cons_zero, List.getElem?_cons_succ, List.cons_append, List.nil_append] at h652
              replace hR := hR.2
              subst r
              refine RetOk.mk (.tmp_bool rfl .nil) ?_
              exact ⟨rfl, h652⟩
        ·
          refine Plan.call (vs := [.int .i64 most1, .slice along154 list2.length clong154]) rfl FSkipsExact.call52 rfl (skips_Load_ok (w0 := w0) (by exact (LV.sgl0 (LO.lvf D81_flat hlong154 0 rfl) (hi := list2.length) hc189)) hr477 h187) ?_
          rintro _ w655 ⟨b0_653, mw0_1_654, rfl, h655⟩
          replace h655 : St B (w0.on [mapR kv2 D71 [] mw0_1_654 x_480]) _ _ := h655
          refine ⟨_, rfl, .inl ⟨PIn.keep (by exact PIn.nil) h655, ?_⟩⟩
          refine Plan.move_tuple rfl rfl ?_
          refine Plan.extract_ptr rfl rfl rfl ?_
          refine Plan.extract_int rfl rfl rfl ?_
          refine Plan.assign_ptr rfl rfl ?_
          refine Plan.assign_int rfl rfl ?_
          refine Plan.nil ?_
          refine hK476 _ _ ?_; clear hK476
          refine GL.next fun K656 hK656 => ?_
          refine W.regionT [(0, true), (1, true), (2, false), (3, true), (4, true), (5, true), (6, true), (7, true)] (by kernel_rfl) ?_
          refine Plan.move_int rfl rfl ?_
          refine Plan.move_slice rfl rfl ?_
          rcases hR with ⟨x_658, hr657, hR⟩ | ⟨x_659, x_660, x_661, hr657, hR⟩
          ·
            refine Plan.call (vs := [.int .i64 most1, .slice alist2 list2.length clist2]) rfl FSkipsExact.call53 rfl (letheref15_Load_ok (by exact (hlist2.app [_, _, _, _, _, _])) hr657 h655) ?_
            rintro _ w662 ⟨rfl, h662⟩
            refine ⟨_, rfl, .inl ⟨PIn.keep (by exact PIn.nil) h662, ?_⟩⟩
            refine Plan.move_tuple rfl rfl ?_
            refine Plan.extract_ptr rfl rfl rfl ?_
            refine Plan.extract_int rfl rfl rfl ?_
            refine Plan.assign_ptr rfl rfl ?_
            refine Plan.assign_int rfl rfl ?_
            refine Plan.nil ?_
            refine hK656 _ _ ?_; clear hK656
            refine GL.next fun K663 hK663 => ?_
            refine W.seq_k fun K674 hK674 => ?_
            obtain ⟨hX677, hR0677⟩ := hR
            refine W.cutN (fun e w => True ∧ EnvHas e [(2, .slice ascript3 script3.length cscript3), (13, .slice along154 list2.length clong154), (14, .pointer (some ⟨b0_653, 0, none⟩)), (15, .pointer none), (97, .bool true)] ∧ St B (w0.on [mapR kv2 D71 [] mw0_1_654 x_480]) (⟨some b0_653, 0, 1, fun _ => .int .i64 x_479, true⟩ :: ⟨some b0_653, 1, 1, fun _ => .map (some mw0_1_654), true⟩ :: ⟨plong154, 0, clong154 * 34, Flong154, true⟩ :: L) w) ?_ ?_
            ·
              replace hR := hX677
              refine W.regionD FSkipsExact.mixed [(0, true), (1, true), (2, true), (3, true), (4, true), (5, true), (6, true), (7, true), (8, true), (9, true), (10, true), (11, true), (12, true), (13, false), (14, true), (15, true), (16, true), (17, true), (18, true), (19, true), (20, true), (21, true), (22, true), (23, true), (24, true), (25, true), (26, true), (27, true), (28, true), (29, true), (30, true), (31, true), (32, true), (33, true), (34, true)] (by kernel_rfl) ?_
              have h678 := h662.drew
              refine Plan.move_int rfl rfl ?_
              refine Plan.move_int rfl rfl ?_
              by_cases hc679 : x_481 ≠ x_658
              ·
                replace hR := ifT hR hc679
                refine Plan.cmpV (a := (((x_481 : Nat) : Int) : Int)) (b := (((x_658 : Nat) : Int) : Int)) (p := x_481 ≠ x_658) (v := true) rfl rfl rfl rfl icmp_neN (decide_eq_true hc679) ?_
                refine Plan.move_bool rfl rfl ?_
                refine Plan.passed rfl ?_
                refine Plan.passed rfl ?_
                refine Plan.passed rfl ?_
                refine Plan.passed rfl ?_
                refine Plan.passed rfl ?_
                refine Plan.pickTb rfl rfl rfl ?_
                refine Plan.move_bool rfl rfl ?_
                refine Plan.passed rfl ?_
                refine Plan.passed rfl ?_
                refine Plan.passed rfl ?_
                refine Plan.passed rfl ?_
                refine Plan.pickTb rfl rfl rfl ?_
                refine Plan.move_bool rfl rfl ?_
                refine Plan.passed rfl ?_
                refine Plan.passed rfl ?_
                refine Plan.passed rfl ?_
                refine Plan.passed rfl ?_
                refine Plan.passed rfl ?_
                refine Plan.passed rfl ?_
                refine Plan.passed rfl ?_
                refine Plan.pickTb rfl rfl rfl ?_
                refine Plan.move_bool rfl rfl ?_
                refine Plan.passed rfl ?_
                refine Plan.passed rfl ?_
                refine Plan.passed rfl ?_
                refine Plan.passed rfl ?_
                refine Plan.passed rfl ?_
                refine Plan.passed rfl ?_
                refine Plan.passed rfl ?_
                refine Plan.passed rfl ?_
                refine Plan.pickTb rfl rfl rfl ?_
                refine Plan.nil ?_
                have h680 := St.pickT (C := [_, _, _, _, _, _]) h678 [0, 1, 2] (by decide)
                simp only [pick, List.filterMap_cons, List.filterMap_nil, List.getElem?_cons_zero, List.getElem?_cons_succ, List.cons_append, List.nil_append] at h680
                exact ⟨trivial, (EnvHas.cons rfl (EnvHas.cons rfl (EnvHas.cons rfl (EnvHas.cons rfl (EnvHas.cons rfl EnvHas.nil))))), h680⟩
              ·
                replace hR := ifF hR hc679
                refine Plan.cmpV (a := (((x_481 : Nat) : Int) : Int)) (b := (((x_658 : Nat) : Int) : Int)) (p := x_481 ≠ x_658) (v := false) rfl rfl rfl rfl icmp_neN (decide_eq_false hc679) ?_
                refine Plan.move_bool rfl rfl ?_
                refine Plan.move_ptr rfl rfl ?_
                refine Plan.eqNil (b := false) FSkipsExact.ptr67 rfl rfl rfl rfl ?_
                refine Plan.move_ptr rfl rfl ?_
                refine Plan.eqNil (b := true) FSkipsExact.ptr103 rfl rfl rfl rfl ?_
                refine Plan.neBoolV (v := true) FSkipsExact.bool4 rfl rfl rfl rfl ?_
                refine Plan.pickFb rfl rfl rfl ?_
                refine Plan.move_bool rfl rfl ?_
                refine Plan.passed rfl ?_
                refine Plan.passed rfl ?_
                refine Plan.passed rfl ?_
                refine Plan.passed rfl ?_
                refine Plan.pickTb rfl rfl rfl ?_
                refine Plan.move_bool rfl rfl ?_
                refine Plan.passed rfl ?_
                refine Plan.passed rfl ?_
                refine Plan.passed rfl ?_
                refine Plan.passed rfl ?_
                refine Plan.passed rfl ?_
                refine Plan.passed rfl ?_
                refine Plan.passed rfl ?_
                refine Plan.pickTb rfl rfl rfl ?_
                refine Plan.move_bool rfl rfl ?_
                refine Plan.passed rfl ?_
                refine Plan.passed rfl ?_
                refine Plan.passed rfl ?_
                refine Plan.passed rfl ?_
                refine Plan.passed rfl ?_
                refine Plan.passed rfl ?_
                refine Plan.passed rfl ?_
                refine Plan.passed rfl ?_
                refine Plan.pickTb rfl rfl rfl ?_
                refine Plan.nil ?_
                have h681 := St.pickT (C := [_, _, _, _, _, _]) h678 [0, 1, 2] (by decide)
                simp only [pick, List.filterMap_cons, List.filterMap_nil, List.getElem?_cons_zero, List.getElem?_cons_succ, List.cons_append, List.nil_append] at h681
                exact ⟨trivial, (EnvHas.cons rfl (EnvHas.cons rfl (EnvHas.cons rfl (EnvHas.cons rfl (EnvHas.cons rfl EnvHas.nil))))), h681⟩
            ·
              rintro ev682 wl682 ⟨_, he682, h682⟩
              obtain ⟨ev682, rfl⟩ := he682.open
              replace hR := hR0677
              refine hK674 _ _ ?_; clear hK674
              refine W.condT rfl ?_
              refine W.seq_k fun K683 hK683 => ?_
              refine W.regionT [(0, true)] (by kernel_rfl) ?_
              refine Plan.assign_bool rfl rfl ?_
              refine Plan.nil ?_
              refine hK683 _ _ ?_; clear hK683
              refine W.ret (thenR_ret (thenR_ret (thenR_ret (finR_ret ?_))))
              have h684 := St.pickT (C := [_, _, _]) h682 [] (by decide)
              simp only [pick, List.filterMap_cons, List.filterMap_nil, List.getElem?_cons_zero, List.getElem?_cons_succ, List.cons_append, List.nil_append] at h684
              have h685 : St B w0 _ _ := St.mpick (N := [mapR kv2 D71 [] mw0_1_654 x_480]) (N' := []) h684 [] (by decide) rfl
              replace hR := hR.2
              subst r
              refine RetOk.mk (.tmp_bool rfl .nil) ?_
              exact ⟨rfl, h685⟩
          ·
            refine Plan.call (vs := [.int .i64 most1, .slice alist2 list2.length clist2]) rfl FSkipsExact.call53 rfl (letheref15_Load_ok (by exact (hlist2.app [_, _, _, _, _, _])) hr657 h655) ?_
            rintro _ w692 ⟨b0_686, aw0_0_687, pw0_0_688, nw0_0_689, cw0_0_690, Fw0_0_691, rfl, h692, hf692_0⟩
            try dsimp only at hf692_0
            obtain rfl := hf692_0.hl
            refine ⟨_, rfl, .inl ⟨PIn.keep (by exact PIn.nil) h692, ?_⟩⟩
            refine Plan.move_tuple rfl rfl ?_
            refine Plan.extract_ptr rfl rfl rfl ?_
            refine Plan.extract_int rfl rfl rfl ?_
            refine Plan.assign_ptr rfl rfl ?_
            refine Plan.assign_int rfl rfl ?_
            refine Plan.nil ?_
            refine hK656 _ _ ?_; clear hK656
            refine GL.next fun K693 hK693 => ?_
            refine W.seq_k fun K728 hK728 => ?_
            obtain ⟨t741, hX742, hR0742⟩ := hR
            refine W.cutN (fun e w => ∃ y_t741 : Bool, (t741 = y_t741) ∧ EnvHas e [(2, .slice ascript3 script3.length cscript3), (13, .slice along154 list2.length clong154), (14, .pointer (some ⟨b0_653, 0, none⟩)), (15, .pointer (some ⟨b0_686, 0, none⟩)), (97, .bool y_t741)] ∧ St B (w0.on [mapR kv2 D71 [] mw0_1_654 x_480]) (⟨some b0_686, 0, 1, fun _ => .slice aw0_0_687 x_659.length cw0_0_690, true⟩ :: ⟨pw0_0_688, 0, cw0_0_690 * 34, Fw0_0_691, true⟩ :: ⟨some b0_686, 1, 1, fun _ => .int .i64 x_660, true⟩ :: ⟨some b0_653, 0, 1, fun _ => .int .i64 x_479, true⟩ :: ⟨some b0_653, 1, 1, fun _ => .map (some mw0_1_654), true⟩ :: ⟨plong154, 0, clong154 * 34, Flong154, true⟩ :: L) w) ?_ ?_
            ·
              replace hR := hX742
              refine W.regionD FSkipsExact.mixed [(0, true), (1, true), (2, true), (3, true), (4, true), (5, true), (6, true), (7, true), (8, true), (9, true), (10, true), (11, true), (12, true), (13, false), (14, true), (15, true), (16, true), (17, true), (18, true), (19, true), (20, true), (21, true), (22, true), (23, true), (24, true), (25, true), (26, true), (27, true), (28, true), (29, true), (30, true), (31, true), (32, true), (33, true), (34, true)] (by kernel_rfl) ?_
              have h743 := h692.drew
              refine Plan.move_int rfl rfl ?_
              refine Plan.move_int rfl rfl ?_
              by_cases hc744 : x_481 ≠ x_661
              ·
                replace hR := ifT hR hc744
                refine Plan.cmpV (a := (((x_481 : Nat) : Int) : Int)) (b := (((x_661 : Nat) : Int) : Int)) (p := x_481 ≠ x_661) (v := true) rfl rfl rfl rfl icmp_neN (decide_eq_true hc744) ?_
                refine Plan.move_bool rfl rfl ?_
                refine Plan.passed rfl ?_
                refine Plan.passed rfl ?_
                refine Plan.passed rfl ?_
                refine Plan.passed rfl ?_
                refine Plan.passed rfl ?_
                refine Plan.pickTb rfl rfl rfl ?_
                refine Plan.move_bool rfl rfl ?_
                refine Plan.passed rfl ?_
                refine Plan.passed rfl ?_
                refine Plan.passed rfl ?_
                refine Plan.passed rfl ?_
                refine Plan.pickTb rfl rfl rfl ?_
                refine Plan.move_bool rfl rfl ?_
                refine Plan.passed rfl ?_
                refine Plan.passed rfl ?_
                refine Plan.passed rfl ?_
                refine Plan.passed rfl ?_
                refine Plan.passed rfl ?_
                refine Plan.passed rfl ?_
                refine Plan.passed rfl ?_
                refine Plan.pickTb rfl rfl rfl ?_
                refine Plan.move_bool rfl rfl ?_
                refine Plan.passed rfl ?_
                refine Plan.passed rfl ?_
                refine Plan.passed rfl ?_
                refine Plan.passed rfl ?_
                refine Plan.passed rfl ?_
                refine Plan.passed rfl ?_
                refine Plan.passed rfl ?_
                refine Plan.passed rfl ?_
                refine Plan.pickTb rfl rfl rfl ?_
                refine Plan.nil ?_
                have h745 := St.pickT (C := [_, _, _, _, _, _, _, _, _]) h743 [0, 1, 2, 3, 4, 5] (by decide)
                simp only [pick, List.filterMap_cons, List.filterMap_nil, List.getElem?_cons_zero, List.getElem?_cons_succ, List.cons_append, List.nil_append] at h745
                exact ⟨true, hR, (EnvHas.cons rfl (EnvHas.cons rfl (EnvHas.cons rfl (EnvHas.cons rfl (EnvHas.cons rfl EnvHas.nil))))), h745⟩
              ·
                replace hR := ifF hR hc744
                refine Plan.cmpV (a := (((x_481 : Nat) : Int) : Int)) (b := (((x_661 : Nat) : Int) : Int)) (p := x_481 ≠ x_661) (v := false) rfl rfl rfl rfl icmp_neN (decide_eq_false hc744) ?_
                refine Plan.move_bool rfl rfl ?_
                refine Plan.move_ptr rfl rfl ?_
                refine Plan.eqNil (b := false) FSkipsExact.ptr67 rfl rfl rfl rfl ?_
                refine Plan.move_ptr rfl rfl ?_
                refine Plan.eqNil (b := false) FSkipsExact.ptr103 rfl rfl rfl rfl ?_
                refine Plan.neBoolV (v := false) FSkipsExact.bool4 rfl rfl rfl rfl ?_
                refine Plan.pickFb rfl rfl rfl ?_
                refine Plan.move_bool rfl rfl ?_
                refine Plan.move_slice rfl rfl ?_
                refine Plan.move_slice rfl rfl ?_
                obtain ⟨x_747, hr746, hR⟩ := hR
                refine Plan.call (vs := [.slice along154 list2.length clong154, .slice alist2 list2.length clist2]) rfl FSkipsExact.call50 rfl (lethelaw15_sameList_ok (by exact (LV.sgl0 (LO.lvf D81_flat hlong154 5 rfl) (hi := list2.length) hc189)) (by exact (hlist2.app [_, _, _, _, _, _, _, _, _])) hr746 h743) ?_
                rintro _ w748 ⟨rfl, h748⟩
                refine ⟨_, rfl, .inl ⟨PIn.keep (by exact PIn.nil) h748, ?_⟩⟩
                by_cases hc749 : x_747 = true
                ·
                  replace hR := ifT hR hc749
                  obtain rfl : x_747 = true := hc749
                  refine Plan.notT rfl rfl ?_
                  refine Plan.pickFb rfl rfl rfl ?_
                  refine Plan.move_bool rfl rfl ?_
                  refine Plan.move_slice rfl rfl ?_
                  refine Plan.move_slice rfl rfl ?_
                  refine Plan.len FSkipsExact.isl78 rfl rfl ?_
                  obtain ⟨hc750, hR⟩ := hR
                  refine Plan.idxLVS (D := D81) (j := list2.length) h748 (LO.lvf D81_flat hlong154 5 rfl) FSkipsExact.sl78 rfl rfl rfl hc750 ?_
                  refine Plan.loadLV (D := D81) (X := long154) (j := list2.length) (sz := 34) h748 (0#32, 0#32, (fun _ => 0#8)) (LO.lvf D81_flat hlong154 5 rfl) rfl rfl hc750 rfl FSkipsExact.agg81 fun b751 r751 hs751 hr751 => ?_
                  refine Plan.loadA h748 rfl rfl (.cons 6 rfl (.cons 7 rfl (.cons 8 rfl .nil))) FSkipsExact.agg81 ?_
                  by_cases hc752 : ((decide ((long154.getD list2.length (0#32, 0#32, (fun _ => 0#8))).1 = 66#32)) && ((decide ((long154.getD list2.length (0#32, 0#32, (fun _ => 0#8))).2.1 = 0#32)) && ((eqB 32 ((long154.getD list2.length (0#32, 0#32, (fun _ => 0#8))).2.2) (fun _ => 0#8)) && true))) = true
                  ·
                    replace hR := ifT hR hc752
                    refine Plan.neStrV' (c := true) FSkipsExact.eqg81 rfl rfl rfl (EqV.struct (d := 9999) (l := [(73, 0), (73, 1), (71, 2)]) FSkipsExact.flds81 (.one [] [(1, fun _ => VU .u32 ((long154.getD list2.length (0#32, 0#32, (fun _ => 0#8))).2.1)), (32, fun q => VU .u8 (((long154.getD list2.length (0#32, 0#32, (fun _ => 0#8))).2.2) q))] [] [(1, fun _ => VU .u32 (0#32)), (32, fun q => VU .u8 ((fun _ => 0#8) q))] (fun _ => VU .u32 ((long154.getD list2.length (0#32, 0#32, (fun _ => 0#8))).1)) (fun _ => VU .u32 (66#32)) rfl rfl rfl rfl FSkipsExact.sc73 rfl rfl (EqV.u (d := 9998) (a := ((long154.getD list2.length (0#32, 0#32, (fun _ => 0#8))).1)) (b := (66#32)) FSkipsExact.int73) (.one [(1, fun _ => VU .u32 ((long154.getD list2.length (0#32, 0#32, (fun _ => 0#8))).1))] [(32, fun q => VU .u8 (((long154.getD list2.length (0#32, 0#32, (fun _ => 0#8))).2.2) q))] [(1, fun _ => VU .u32 (66#32))] [(32, fun q => VU .u8 ((fun _ => 0#8) q))] (fun _ => VU .u32 ((long154.getD list2.length (0#32, 0#32, (fun _ => 0#8))).2.1)) (fun _ => VU .u32 (0#32)) rfl rfl rfl rfl FSkipsExact.sc73 rfl rfl (EqV.u (d := 9998) (a := ((long154.getD list2.length (0#32, 0#32, (fun _ => 0#8))).2.1)) (b := (0#32)) FSkipsExact.int73) (.agg [(1, fun _ => VU .u32 ((long154.getD list2.length (0#32, 0#32, (fun _ => 0#8))).1)), (1, fun _ => VU .u32 ((long154.getD list2.length (0#32, 0#32, (fun _ => 0#8))).2.1))] [(32, fun q => VU .u8 (((long154.getD list2.length (0#32, 0#32, (fun _ => 0#8))).2.2) q))] [] [(1, fun _ => VU .u32 (66#32)), (1, fun _ => VU .u32 (0#32))] [(32, fun q => VU .u8 ((fun _ => 0#8) q))] [] rfl rfl rfl rfl FSkipsExact.agg71 FSkipsExact.agg71 (EqV.arr (d := 9997) (F := ((long154.getD list2.length (0#32, 0#32, (fun _ => 0#8))).2.2)) (G := (fun _ => 0#8)) FSkipsExact.arrI71) .nil)))) hc752 ?_
                    refine Plan.pickFb rfl rfl rfl ?_
                    refine Plan.move_bool rfl rfl ?_
                    refine Plan.move_slice rfl rfl ?_
                    refine Plan.move_slice rfl rfl ?_
                    refine Plan.len FSkipsExact.isl78 rfl rfl ?_
                    obtain ⟨hc753, hR⟩ := hR
                    refine Plan.addN (a := list2.length) (b := 1) rfl rfl rfl (by omega) ?_
                    obtain ⟨hc754, hR⟩ := hR
                    refine Plan.idxLVS (D := D81) (j := (list2.length + 1)) h748 (LO.lvf D81_flat hlong154 5 rfl) FSkipsExact.sl78 rfl rfl rfl hc754 ?_
                    refine Plan.loadLV (D := D81) (X := long154) (j := (list2.length + 1)) (sz := 34) h748 (0#32, 0#32, (fun _ => 0#8)) (LO.lvf D81_flat hlong154 5 rfl) rfl rfl hc754 rfl FSkipsExact.agg81 fun b755 r755 hs755 hr755 => ?_
                    refine Plan.loadA h748 rfl rfl (.cons 6 rfl (.cons 7 rfl (.cons 8 rfl .nil))) FSkipsExact.agg81 ?_
                    refine Plan.neStrV' (c := ((decide ((long154.getD (list2.length + 1) (0#32, 0#32, (fun _ => 0#8))).1 = 66#32)) && ((decide ((long154.getD (list2.length + 1) (0#32, 0#32, (fun _ => 0#8))).2.1 = 0#32)) && ((eqB 32 ((long154.getD (list2.length + 1) (0#32, 0#32, (fun _ => 0#8))).2.2) (fun _ => 0#8)) && true)))) FSkipsExact.eqg81 rfl rfl rfl (EqV.struct (d := 9999) (l := [(73, 0), (73, 1), (71, 2)]) FSkipsExact.flds81 (.one [] [(1, fun _ => VU .u32 ((long154.getD (list2.length + 1) (0#32, 0#32, (fun _ => 0#8))).2.1)), (32, fun q => VU .u8 (((long154.getD (list2.length + 1) (0#32, 0#32, (fun _ => 0#8))).2.2) q))] [] [(1, fun _ => VU .u32 (0#32)), (32, fun q => VU .u8 ((fun _ => 0#8) q))] (fun _ => VU .u32 ((long154.getD (list2.length + 1) (0#32, 0#32, (fun _ => 0#8))).1)) (fun _ => VU .u32 (66#32)) rfl rfl rfl rfl FSkipsExact.sc73 rfl rfl (EqV.u (d := 9998) (a := ((long154.getD (list2.length + 1) (0#32, 0#32, (fun _ => 0#8))).1)) (b := (66#32)) FSkipsExact.int73) (.one [(1, fun _ => VU .u32 ((long154.getD (list2.length + 1) (0#32, 0#32, (fun _ => 0#8))).1))] [(32, fun q => VU .u8 (((long154.getD (list2.length + 1) (0#32, 0#32, (fun _ => 0#8))).2.2) q))] [(1, fun _ => VU .u32 (66#32))] [(32, fun q => VU .u8 ((fun _ => 0#8) q))] (fun _ => VU .u32 ((long154.getD (list2.length + 1) (0#32, 0#32, (fun _ => 0#8))).2.1)) (fun _ => VU .u32 (0#32)) rfl rfl rfl rfl FSkipsExact.sc73 rfl rfl (EqV.u (d := 9998) (a := ((long154.getD (list2.length + 1) (0#32, 0#32, (fun _ => 0#8))).2.1)) (b := (0#32)) FSkipsExact.int73) (.agg [(1, fun _ => VU .u32 ((long154.getD (list2.length + 1) (0#32, 0#32, (fun _ => 0#8))).1)), (1, fun _ => VU .u32 ((long154.getD (list2.length + 1) (0#32, 0#32, (fun _ => 0#8))).2.1))] [(32, fun q => VU .u8 (((long154.getD (list2.length + 1) (0#32, 0#32, (fun _ => 0#8))).2.2) q))] [] [(1, fun _ => VU .u32 (66#32)), (1, fun _ => VU .u32 (0#32))] [(32, fun q => VU .u8 ((fun _ => 0#8) q))] [] rfl rfl rfl rfl FSkipsExact.agg71 FSkipsExact.agg71 (EqV.arr (d := 9997) (F := ((long154.getD (list2.length + 1) (0#32, 0#32, (fun _ => 0#8))).2.2)) (G := (fun _ => 0#8)) FSkipsExact.arrI71) .nil)))) rfl ?_
                    refine Plan.pickFb rfl rfl rfl ?_
                    refine Plan.nil ?_
                    have h756 := St.pickT (C := [_, _, _, _, _, _, _, _, _]) h748 [0, 1, 2, 3, 4, 5] (by decide)
                    simp only [pick, List.filterMap_cons, List.filterMap_nil, List.getElem?_cons_zero, List.getElem?_cons_succ, List.cons_append, List.nil_append] at h756
                    exact ⟨(!((decide ((long154.getD (list2.length + 1) (0#32, 0#32, (fun _ => 0#8))).1 = 66#32)) && ((decide ((long154.getD (list2.length + 1) (0#32, 0#32, (fun _ => 0#8))).2.1 = 0#32)) && ((eqB 32 ((long154.getD (list2.length + 1) (0#32, 0#32, (fun _ => 0#8))).2.2) (fun _ => 0#8)) && true)))), hR, (EnvHas.cons rfl (EnvHas.cons rfl (EnvHas.cons rfl (EnvHas.cons rfl (EnvHas.cons rfl EnvHas.nil))))), h756⟩
                  ·
                    replace hR := ifF hR hc752
                    refine Plan.neStrV' (c := false) FSkipsExact.eqg81 rfl rfl rfl (EqV.struct (d := 9999) (l := [(73, 0), (73, 1), (71, 2)]) FSkipsExact.flds81 (.one [] [(1, fun _ => VU .u32 ((long154.getD list2.length (0#32, 0#32, (fun _ => 0#8))).2.1)), (32, fun q => VU .u8 (((long154.getD list2.length (0#32, 0#32, (fun _ => 0#8))).2.2) q))] [] [(1, fun _ => VU .u32 (0#32)), (32, fun q => VU .u8 ((fun _ => 0#8) q))] (fun _ => VU .u32 ((long154.getD list2.length (0#32, 0#32, (fun _ => 0#8))).1)) (fun _ => VU .u32 (66#32)) rfl rfl rfl rfl FSkipsExact.sc73 rfl rfl (EqV.u (d := 9998) (a := ((long154.getD list2.length (0#32, 0#32, (fun _ => 0#8))).1)) (b := (66#32)) FSkipsExact.int73) (.one [(1, fun _ => VU .u32 ((long154.getD list2.length (0#32, 0#32, (fun _ => 0#8))).1))] [(32, fun q => VU .u8 (((long154.getD list2.length (0#32, 0#32, (fun _ => 0#8))).2.2) q))] [(1, fun _ => VU .u32 (66#32))] [(32, fun q => VU .u8 ((fun _ => 0#8) q))] (fun _ => VU .u32 ((long154.getD list2.length (0#32, 0#32, (fun _ => 0#8))).2.1)) (fun _ => VU .u32 (0#32)) rfl rfl rfl rfl FSkipsExact.sc73 rfl rfl (EqV.u (d := 9998) (a := ((long154.getD list2.length (0#32, 0#32, (fun _ => 0#8))).2.1)) (b := (0#32)) FSkipsExact.int73) (.agg [(1, fun _ => VU .u32 ((long154.getD list2.length (0#32, 0#32, (fun _ => 0#8))).1)), (1, fun _ => VU .u32 ((long154.getD list2.length (0#32, 0#32, (fun _ => 0#8))).2.1))] [(32, fun q => VU .u8 (((long154.getD list2.length (0#32, 0#32, (fun _ => 0#8))).2.2) q))] [] [(1, fun _ => VU .u32 (66#32)), (1, fun _ => VU .u32 (0#32))] [(32, fun q => VU .u8 ((fun _ => 0#8) q))] [] rfl rfl rfl rfl FSkipsExact.agg71 FSkipsExact.agg71 (EqV.arr (d := 9997) (F := ((long154.getD list2.length (0#32, 0#32, (fun _ => 0#8))).2.2)) (G := (fun _ => 0#8)) FSkipsExact.arrI71) .nil)))) (Bool.eq_false_iff.2 hc752) ?_
                    refine Plan.pickFb rfl rfl rfl ?_
                    refine Plan.move_bool rfl rfl ?_
                    refine Plan.passed rfl ?_
                    refine Plan.passed rfl ?_
                    refine Plan.passed rfl ?_
                    refine Plan.passed rfl ?_
                    refine Plan.passed rfl ?_
                    refine Plan.passed rfl ?_
                    refine Plan.passed rfl ?_
                    refine Plan.passed rfl ?_
                    refine Plan.pickTb rfl rfl rfl ?_
                    refine Plan.nil ?_
                    have h757 := St.pickT (C := [_, _, _, _, _, _, _, _, _]) h748 [0, 1, 2, 3, 4, 5] (by decide)
                    simp only [pick, List.filterMap_cons, List.filterMap_nil, List.getElem?_cons_zero, List.getElem?_cons_succ, List.cons_append, List.nil_append] at h757
                    exact ⟨true, hR, (EnvHas.cons rfl (EnvHas.cons rfl (EnvHas.cons rfl (EnvHas.cons rfl (EnvHas.cons rfl EnvHas.nil))))), h757⟩
                ·
                  replace hR := ifF hR hc749
                  obtain rfl : x_747 = false := Bool.eq_false_iff.2 hc749
                  refine Plan.notF rfl rfl ?_
                  refine Plan.pickFb rfl rfl rfl ?_
                  refine Plan.move_bool rfl rfl ?_
                  refine Plan.passed rfl ?_
                  refine Plan.passed rfl ?_
                  refine Plan.passed rfl ?_
                  refine Plan.passed rfl ?_
                  refine Plan.passed rfl ?_
                  refine Plan.passed rfl ?_
                  refine Plan.passed rfl ?_
                  refine Plan.pickTb rfl rfl rfl ?_
                  refine Plan.move_bool rfl rfl ?_
                  refine Plan.passed rfl ?_
                  refine Plan.passed rfl ?_
                  refine Plan.passed rfl ?_
                  refine Plan.passed rfl ?_
                  refine Plan.passed rfl ?_
                  refine Plan.passed rfl ?_
                  refine Plan.passed rfl ?_
                  refine Plan.passed rfl ?_
                  refine Plan.pickTb rfl rfl rfl ?_
                  refine Plan.nil ?_
                  have h758 := St.pickT (C := [_, _, _, _, _, _, _, _, _]) h748 [0, 1, 2, 3, 4, 5] (by decide)
                  simp only [pick, List.filterMap_cons, List.filterMap_nil, List.getElem?_cons_zero, List.getElem?_cons_succ, List.cons_append, List.nil_append] at h758
                  exact ⟨true, hR, (EnvHas.cons rfl (EnvHas.cons rfl (EnvHas.cons rfl (EnvHas.cons rfl (EnvHas.cons rfl EnvHas.nil))))), h758⟩
            ·
              rintro ev759 wl759 ⟨y_t741, hy759_0, he759, h759⟩
              subst hy759_0
              obtain ⟨ev759, rfl⟩ := he759.open
              replace hR := hR0742
              refine hK728 _ _ ?_; clear hK728
              by_cases hc760 : t741 = true
              ·
                replace hR := ifT hR hc760
                refine W.condT (congrArg Value.bool hc760) ?_
                refine W.seq_k fun K761 hK761 => ?_
                refine W.regionT [(0, true)] (by kernel_rfl) ?_
                refine Plan.assign_bool rfl rfl ?_
                refine Plan.nil ?_
                refine hK761 _ _ ?_; clear hK761
                refine W.ret (thenR_ret (thenR_ret (thenR_ret (finR_ret ?_))))
                have h762 := St.pickT (C := [_, _, _, _, _, _]) h759 [] (by decide)
                simp only [pick, List.filterMap_cons, List.filterMap_nil, List.getElem?_cons_zero, List.getElem?_cons_succ, List.cons_append, List.nil_append] at h762
                have h763 : St B w0 _ _ := St.mpick (N := [mapR kv2 D71 [] mw0_1_654 x_480]) (N' := []) h762 [] (by decide) rfl
                replace hR := hR.2
                subst r
                refine RetOk.mk (.tmp_bool rfl .nil) ?_
                exact ⟨rfl, h763⟩
              ·
                replace hR := ifF hR hc760
                refine W.condF (congrArg Value.bool (Bool.eq_false_iff.2 hc760)) ?_
                refine W.skip ?_
                refine hK693 _ _ ?_; clear hK693
                refine GL.one ?_
                refine W.seq_k fun K764 hK764 => ?_
                refine W.regionT [(0, true), (1, true)] (by kernel_rfl) ?_
                refine Plan.move_ptr rfl rfl ?_
                refine Plan.eqNil (b := false) FSkipsExact.ptr67 rfl rfl rfl rfl ?_
                refine Plan.nil ?_
                refine hK764 _ _ ?_; clear hK764
                refine W.condF rfl ?_
                refine W.skip ?_
                have h765 := St.pickT (C := [_, _, _, _, _, _]) h759 [3, 4, 1, 0, 2, 5] (by decide)
                simp only [pick, List.filterMap_cons, List.filterMap_nil, List.getElem?_cons_zero, List.getElem?_cons_succ, List.cons_append, List.nil_append] at h765
                exact ⟨x_479, x_480, x_659, x_660, hR, b0_653, mw0_1_654, b0_686, x_659.length, aw0_0_687, pw0_0_688, cw0_0_690, Fw0_0_691, (EnvHas.cons rfl (EnvHas.cons rfl (EnvHas.cons rfl (EnvHas.cons rfl EnvHas.nil)))), h765, hf692_0⟩
      ·
        rintro ev766 wl766 ⟨y_m469, y_mp471, y_m473, y_m474, ⟨hy766_0, hy766_1, hy766_2, hy766_3, hy766_4⟩, b468, m470, b472, n_m473, am473, pm473, cm473, Fm473, he766, h766, hm473⟩
        subst hy766_1
        subst hy766_2
        subst hy766_3
        subst hy766_4
        obtain rfl : List.length (α := ((BitVec 32) × (BitVec 32) × (Nat → BitVec 8))) m473 = n_m473 := hm473.hl
        obtain ⟨ev766, rfl⟩ := he766.open
        replace hR := hR0475 hy766_0
        refine hK191 _ _ ?_; clear hK191
        refine W.seq_k fun K767 hK767 => ?_
        refine W.seq_k fun K768 hK768 => ?_
        refine W.regionT [(0, true)] (by kernel_rfl) ?_
        refine Plan.assign_int rfl rfl ?_
        refine Plan.nil ?_
        refine hK768 _ _ ?_; clear hK768
        obtain ⟨hI786, hR0786⟩ := hR
        refine W.cutN (fun e w => True ∧ EnvHas e [(2, .slice ascript3 script3.length cscript3), (14, .pointer (some ⟨b468, 0, none⟩)), (15, .pointer (some ⟨b472, 0, none⟩))] ∧ St B (w0.on [mapR kv2 D71 [] m470 mp471]) (⟨some b468, 0, 1, fun _ => .int .i64 m469, true⟩ :: ⟨some b468, 1, 1, fun _ => .map (some m470), true⟩ :: ⟨pm473, 0, cm473 * 34, Fm473, true⟩ :: ⟨some b472, 0, 1, fun _ => .slice am473 m473.length cm473, true⟩ :: ⟨some b472, 1, 1, fun _ => .int .i64 m474, true⟩ :: L) w) ?_ ?_
        ·
          refine W.block ?_
          have h787 := St.pickT (C := [_, _, _, _, _, _]) h766 [5, 0, 1, 2, 3, 4] (by decide)
          simp only [pick, List.filterMap_cons, List.filterMap_nil, List.getElem?_cons_zero, List.getElem?_cons_succ, List.cons_append, List.nil_append] at h787
          refine W.iter hI786 (fun (s786 : ((List ((BitVec 32) × (BitVec 32) × (Nat → BitVec 8))) × Nat)) e w => ∃ n_l_784 : Nat, ∃ al_784 : Option Addr, ∃ pl_784 : Option Nat, ∃ cl_784 : Nat, ∃ Fl_784 : Nat → Value, EnvHas e [(2, .slice ascript3 script3.length cscript3), (13, .slice al_784 list2.length cl_784), (14, .pointer (some ⟨b468, 0, none⟩)), (15, .pointer (some ⟨b472, 0, none⟩)), (16, VN s786.2)] ∧ St B (w0.on [mapR kv2 D71 [] m470 mp471]) (⟨pl_784, 0, cl_784 * 34, Fl_784, true⟩ :: ⟨some b468, 0, 1, fun _ => .int .i64 m469, true⟩ :: ⟨some b468, 1, 1, fun _ => .map (some m470), true⟩ :: ⟨pm473, 0, cm473 * 34, Fm473, true⟩ :: ⟨some b472, 0, 1, fun _ => .slice am473 m473.length cm473, true⟩ :: ⟨some b472, 1, 1, fun _ => .int .i64 m474, true⟩ :: L) w ∧ LO D81 [] al_784 pl_784 n_l_784 cl_784 Fl_784 s786.1 ∧ list2.length ≤ n_l_784) ⟨long154.length, along154, plong154, clong154, Flong154, (EnvHas.cons rfl (EnvHas.cons rfl (EnvHas.cons rfl (EnvHas.cons rfl (EnvHas.cons rfl EnvHas.nil))))), h787, hlong154, (by have hb0 : 0 ≤ list2.length ∧ list2.length ≤ long154.length := hc189; first | exact hb0.2 | omega)⟩ ?_
          rintro ⟨l_784, i_785⟩ o786 hR hx786 ev788 wl788 ⟨n_l_784, al_784, pl_784, cl_784, Fl_784, he788, h788, hl_784, hbl_784⟩
          try dsimp only at he788 h788 hl_784 hbl_784
          obtain rfl : List.length (α := ((BitVec 32) × (BitVec 32) × (Nat → BitVec 8))) l_784 = n_l_784 := hl_784.hl
          obtain ⟨ev788, rfl⟩ := he788.open
          unfold lethelaw15_SkipsExact_l0 at hR
          refine W.seq_k fun K789 hK789 => ?_
          refine W.seq_k fun K790 hK790 => ?_
          refine W.regionT [(0, true), (1, true), (2, true), (3, true)] (by kernel_rfl) ?_
          refine Plan.move_int rfl rfl ?_
          refine Plan.move_slice rfl rfl ?_
          refine Plan.len FSkipsExact.isl78 rfl rfl ?_
          refine Plan.cmpP (a := (((i_785 : Nat) : Int) : Int)) (b := (((list2.length : Nat) : Int) : Int)) (p := i_785 < list2.length) rfl rfl rfl rfl icmp_ltN ?_
          refine Plan.nil ?_
          refine hK790 _ _ ?_; clear hK790
          by_cases hc791 : i_785 < list2.length
          ·
            replace hR := ifT hR hc791
            refine W.condT (congrArg Value.bool (decide_eq_true hc791)) ?_
            refine W.skip ?_
            refine hK789 _ _ ?_; clear hK789
            refine W.seq_k fun K792 hK792 => ?_
            refine W.block ?_
            refine W.regionT [(0, true), (1, true), (2, true), (3, true), (4, false)] (by kernel_rfl) ?_
            refine Plan.move_slice rfl rfl ?_
            refine Plan.move_int rfl rfl ?_
            refine Plan.buildP (ps := [(1, fun _ => VU .u32 (77#32)), (1, fun _ => VU .u32 (0#32)), (32, fun q => VU .u8 ((fun _ => 0#8) q))]) FSkipsExact.pl81 (by decide) FSkipsExact.z81 rfl rfl (.one [] [(1, fun _ => VU .u32 (0#32)), (32, fun q => VU .u8 ((fun _ => 0#8) q))] (fun _ => VU .u32 (0#32)) rfl rfl .nil) ?_
            obtain ⟨hc793, hR⟩ := hR
            refine Plan.idxLVS (D := D81) (j := i_785) h788 (LV.sgl0 (LO.lvf D81_flat hl_784 0 rfl) (hi := list2.length) (by omega)) FSkipsExact.sl78 rfl rfl rfl hc793 ?_
            refine Plan.storeLO (D := D81) (j := i_785) (sz := 34) h788 () (77#32, 0#32, (fun _ => 0#8)) 0 hl_784 trivial rfl rfl rfl rfl (by have hb0 : 0 ≤ list2.length ∧ list2.length ≤ l_784.length := (by omega); have hb1 : i_785 < list2.length := hc793; omega) rfl FSkipsExact.sz81 (fun _ => EffO.keep PIn.nil) fun w794 F794 ho794 h794 => ?_
            simp only [List.cons_append, List.nil_append, List.set_cons_zero, List.set_cons_succ] at h794
            have e794 : (l_784.set i_785 (77#32, 0#32, (fun _ => 0#8))).length = l_784.length := List.length_set
            refine Plan.nil ?_
            refine blockR_norm ?_
            refine hK792 _ _ ?_; clear hK792
            refine W.regionT [(0, true), (1, true), (2, true)] (by kernel_rfl) ?_
            refine Plan.move_int rfl rfl ?_
            obtain ⟨hc795, hR⟩ := hR
            refine Plan.addN (a := i_785) (b := 1) rfl rfl rfl (by omega) ?_
            refine Plan.assign_int rfl rfl ?_
            refine Plan.nil ?_
            exact iterR_norm ⟨_, hR, l_784.length, al_784, pl_784, cl_784, F794, (EnvHas.cons rfl (EnvHas.cons rfl (EnvHas.cons rfl (EnvHas.cons rfl (EnvHas.cons rfl EnvHas.nil))))), h794, (show LO D81 [] _ _ l_784.length _ _ _ from ho794), (by have hb0 : 0 ≤ list2.length ∧ list2.length ≤ l_784.length := (by omega); first | exact hb0.2 | omega)⟩
          ·
            replace hR := ifF hR hc791
            refine W.condF (congrArg Value.bool (decide_eq_false hc791)) ?_
            refine W.exit (thenR_exit (iterR_exit (blockR_here ?_)))
            have h796 := St.pickT (C := [_, _, _, _, _, _]) h788 [1, 2, 3, 4, 5] (by decide)
            simp only [pick, List.filterMap_cons, List.filterMap_nil, List.getElem?_cons_zero, List.getElem?_cons_succ, List.cons_append, List.nil_append] at h796
            exact ⟨trivial, (EnvHas.cons rfl (EnvHas.cons rfl (EnvHas.cons rfl EnvHas.nil))), h796⟩
        ·
          rintro ev797 wl797 ⟨hy797, he797, h797⟩
          obtain ⟨ev797, rfl⟩ := he797.open
          replace hR := hR0786
          refine hK767 _ _ ?_; clear hK767
          refine W.seq_k fun K798 hK798 => ?_
          refine W.regionT [(0, true), (1, true), (2, true), (3, false), (4, true)] (by kernel_rfl) ?_
          refine Plan.move_ptr rfl rfl ?_
          refine Plan.move_ptr rfl rfl ?_
          refine Plan.buildP (ps := [(1, fun _ => .pointer (some ⟨b468, 0, none⟩)), (1, fun _ => .pointer (some ⟨b472, 0, none⟩))]) FSkipsExact.pl110 (by decide) FSkipsExact.z110 rfl rfl (.one [] [(1, fun _ => .pointer none)] (fun _ => .pointer none) rfl rfl (.one [(1, fun _ => .pointer (some ⟨b468, 0, none⟩))] [] (fun _ => .pointer none) rfl rfl .nil)) ?_
          refine Plan.boxA h797 rfl rfl PIn.nil fun b799 w799 hb799 h799 => ?_
          simp only [rngs, Nat.zero_add, Nat.reduceAdd, List.cons_append, List.nil_append] at h799
          refine Plan.assign_ptr rfl rfl ?_
          refine Plan.nil ?_
          refine hK798 _ _ ?_; clear hK798
          refine W.seq_k fun K800 hK800 => ?_
          refine W.seq_k fun K801 hK801 => ?_
          refine W.regionT [(0, true)] (by kernel_rfl) ?_
          refine Plan.assign_int rfl rfl ?_
          refine Plan.nil ?_
          refine hK801 _ _ ?_; clear hK801
          obtain ⟨x1781, hI1781, hR01781⟩ := hR
          refine W.cutN (fun e w => ∃ y_m1777 : Int, ∃ y_mp1779 : List ((BitVec 32 × BitVec 32) × (Nat → BitVec 8)), ∃ y_m1780 : List ((BitVec 32) × (BitVec 32) × (Nat → BitVec 8)), x1781 = some (y_m1777, y_mp1779, y_m1780) ∧ ∃ b1776 : Nat, ∃ m1778 : Nat, ∃ n_m1780 : Nat, ∃ am1780 : Option Addr, ∃ pm1780 : Option Nat, ∃ cm1780 : Nat, ∃ Fm1780 : Nat → Value, EnvHas e [(17, .pointer (some ⟨b799, 0, none⟩))] ∧ St B (w0.on [mapR kv2 D71 [] m1778 y_mp1779]) (⟨some b1776, 0, 1, fun _ => .int .i64 y_m1777, true⟩ :: ⟨some b1776, 1, 1, fun _ => .map (some m1778), true⟩ :: ⟨pm1780, 0, cm1780 * 34, Fm1780, true⟩ :: ⟨some b799, 0, 1, fun _ => .pointer (some ⟨b1776, 0, none⟩), true⟩ :: ⟨some b799, 1, 1, fun _ => .pointer (some ⟨b472, 0, none⟩), true⟩ :: ⟨some b472, 0, 1, fun _ => .slice am1780 n_m1780 cm1780, true⟩ :: ⟨some b472, 1, 1, fun _ => .int .i64 m474, true⟩ :: L) w ∧ LO D81 [] am1780 pm1780 n_m1780 cm1780 Fm1780 y_m1780) ?_ ?_
          ·
            refine W.block ?_
            have h1782 := St.pickT (C := [_, _, _, _, _, _, _]) h799 [2, 3, 4, 0, 1, 5, 6] (by decide)
            simp only [pick, List.filterMap_cons, List.filterMap_nil, List.getElem?_cons_zero, List.getElem?_cons_succ, List.cons_append, List.nil_append] at h1782
            refine W.iter hI1781 (fun (s1781 : (Nat × Int × (List ((BitVec 32 × BitVec 32) × (Nat → BitVec 8))) × (List ((BitVec 32) × (BitVec 32) × (Nat → BitVec 8))))) e w => ∃ b1771 : Nat, ∃ m1773 : Nat, ∃ n_m1775 : Nat, ∃ am1775 : Option Addr, ∃ pm1775 : Option Nat, ∃ cm1775 : Nat, ∃ Fm1775 : Nat → Value, EnvHas e [(2, .slice ascript3 script3.length cscript3), (17, .pointer (some ⟨b799, 0, none⟩)), (18, VN s1781.1)] ∧ St B (w0.on [mapR kv2 D71 [] m1773 s1781.2.2.1]) (⟨some b1771, 0, 1, fun _ => .int .i64 s1781.2.1, true⟩ :: ⟨some b1771, 1, 1, fun _ => .map (some m1773), true⟩ :: ⟨pm1775, 0, cm1775 * 34, Fm1775, true⟩ :: ⟨some b799, 0, 1, fun _ => .pointer (some ⟨b1771, 0, none⟩), true⟩ :: ⟨some b799, 1, 1, fun _ => .pointer (some ⟨b472, 0, none⟩), true⟩ :: ⟨some b472, 0, 1, fun _ => .slice am1775 n_m1775 cm1775, true⟩ :: ⟨some b472, 1, 1, fun _ => .int .i64 m474, true⟩ :: L) w ∧ LO D81 [] am1775 pm1775 n_m1775 cm1775 Fm1775 s1781.2.2.2) ⟨b468, m470, m473.length, am473, pm473, cm473, Fm473, (EnvHas.cons rfl (EnvHas.cons rfl (EnvHas.cons rfl EnvHas.nil))), h1782, hm473⟩ ?_
            rintro ⟨i_1770, m1772, mp1774, m1775⟩ o1781 hR hx1781 ev1783 wl1783 ⟨b1771, m1773, n_m1775, am1775, pm1775, cm1775, Fm1775, he1783, h1783, hm1775⟩
            try dsimp only at he1783 h1783 hm1775
            obtain rfl : List.length (α := ((BitVec 32) × (BitVec 32) × (Nat → BitVec 8))) m1775 = n_m1775 := hm1775.hl
            obtain ⟨ev1783, rfl⟩ := he1783.open
            unfold lethelaw15_SkipsExact_l1 at hR
            refine W.seq_k fun K1784 hK1784 => ?_
            refine W.seq_k fun K1788 hK1788 => ?_
            refine W.regionT [(0, true), (1, true), (2, true), (3, true), (4, true), (5, true), (6, true), (7, true)] (by kernel_rfl) ?_
            refine Plan.move_int rfl rfl ?_
            refine Plan.move_slice rfl rfl ?_
            refine Plan.len FSkipsExact.isl102 rfl rfl ?_
            by_cases hc1789 : i_1770 < script3.length
            ·
              replace hR := ifT hR hc1789
              refine Plan.cmpV (a := (((i_1770 : Nat) : Int) : Int)) (b := (((script3.length : Nat) : Int) : Int)) (p := i_1770 < script3.length) (v := true) rfl rfl rfl rfl icmp_ltN (decide_eq_true hc1789) ?_
              refine Plan.move_bool rfl rfl ?_
              refine Plan.move_int rfl rfl ?_
              refine Plan.cmpP (a := (((i_1770 : Nat) : Int) : Int)) (b := (200 : Int)) (p := i_1770 < 200) rfl rfl rfl rfl icmp_ltN ?_
              refine Plan.pickTb rfl rfl rfl ?_
              refine Plan.nil ?_
              refine hK1788 _ _ ?_; clear hK1788
              by_cases hc1790 : i_1770 < 200
              ·
                replace hR := ifT hR hc1790
                refine W.condT (congrArg Value.bool (decide_eq_true hc1790)) ?_
                refine W.skip ?_
                refine hK1784 _ _ ?_; clear hK1784
                refine W.seq_k fun K1791 hK1791 => ?_
                refine W.block ?_
                refine W.seq_k fun K1792 hK1792 => ?_
                refine W.regionT [(0, true), (1, true), (2, true), (3, true), (4, true), (5, false), (6, true)] (by kernel_rfl) ?_
                refine Plan.move_ptr rfl rfl ?_
                refine Plan.move_slice rfl rfl ?_
                refine Plan.move_int rfl rfl ?_
                obtain ⟨hc1793, hR⟩ := hR
                refine Plan.idxLVS (D := (D113.at L)) (j := i_1770) h1783 (hscript3.app [_, _, _, _, _, _, _]) FSkipsExact.sl102 rfl rfl rfl hc1793 ?_
                refine Plan.loadLV (D := (D113.at L)) (X := script3) (j := i_1770) (sz := 4) h1783 ((0 : Int), 0#32, 0#32, ([] : List (Nat → BitVec 8))) (hscript3.app [_, _, _, _, _, _, _]) rfl rfl hc1793 rfl FSkipsExact.agg113 fun b1794 r1794 hs1794 hr1794 => ?_
                obtain ⟨i1794_3, hv1794_3⟩ := hs1794
                obtain ⟨most2023, m2025, mp2027, m2028, hX2015, hR02015⟩ := hR
                refine Plan.call (vs := [.pointer (some ⟨b799, 0, none⟩), AG [(1, fun _ => .int .i64 ((script3.getD i_1770 ((0 : Int), 0#32, 0#32, ([] : List (Nat → BitVec 8)))).1)), (1, fun _ => VU .u32 ((script3.getD i_1770 ((0 : Int), 0#32, 0#32, ([] : List (Nat → BitVec 8)))).2.1)), (1, fun _ => VU .u32 ((script3.getD i_1770 ((0 : Int), 0#32, 0#32, ([] : List (Nat → BitVec 8)))).2.2.1)), (1, fun _ => .slice ((b1794).1) (((script3.getD i_1770 ((0 : Int), 0#32, 0#32, ([] : List (Nat → BitVec 8)))).2.2.2).length) ((b1794).2))]]) (R := fun e w => ∃ y_most2023 : Bool, ∃ y_m2025 : Int, ∃ y_mp2027 : List ((BitVec 32 × BitVec 32) × (Nat → BitVec 8)), ∃ y_m2028 : List ((BitVec 32) × (BitVec 32) × (Nat → BitVec 8)), (most2023 = y_most2023 ∧ m2025 = y_m2025 ∧ mp2027 = y_mp2027 ∧ m2028 = y_m2028) ∧ ∃ b2024 : Nat, ∃ m2026 : Nat, ∃ n_m2028 : Nat, ∃ am2028 : Option Addr, ∃ pm2028 : Option Nat, ∃ cm2028 : Nat, ∃ Fm2028 : Nat → Value, e = .returned (.bool y_most2023) ∧ St B (w0.on [mapR kv2 D71 [] m2026 y_mp2027]) (⟨some b2024, 0, 1, fun _ => .int .i64 y_m2025, true⟩ :: ⟨some b2024, 1, 1, fun _ => .map (some m2026), true⟩ :: ⟨pm2028, 0, cm2028 * 34, Fm2028, true⟩ :: ⟨some b472, 0, 1, fun _ => .slice am2028 n_m2028 cm2028, true⟩ :: ⟨some b472, 1, 1, fun _ => .int .i64 m474, true⟩ :: ⟨some b799, 0, 1, fun _ => .pointer (some ⟨b2024, 0, none⟩), true⟩ :: ⟨some b799, 1, 1, fun _ => .pointer (some ⟨b472, 0, none⟩), true⟩ :: L) w ∧ LO D81 [] am2028 pm2028 n_m2028 cm2028 Fm2028 y_m2028) rfl FSkipsExact.call54 rfl ?_ ?_
                ·
                  replace hR := hX2015
                  refine W.enter 226 Try.func54 rfl rfl rfl ?_
                  refine W.seq_k fun K2029 hK2029 => ?_
                  refine W.regionT [(0, false), (1, true)] (by kernel_rfl) ?_
                  refine Plan.boxA h1783 rfl rfl PIn.nil fun b2030 w2030 hb2030 h2030 => ?_
                  simp only [rngs, Nat.zero_add, Nat.reduceAdd, List.cons_append, List.nil_append] at h2030
                  refine Plan.assign_bool rfl rfl ?_
                  refine Plan.nil ?_
                  refine hK2029 _ _ ?_; clear hK2029
                  refine W.seq_k fun K2031 hK2031 => ?_
                  refine W.seq_k fun K2032 hK2032 => ?_
                  refine W.regionT [(0, true), (1, true)] (by kernel_rfl) ?_
                  refine Plan.fieldAddr0 FSkipsExact.fld113_0 rfl rfl ?_
                  refine Plan.load0 h2030 0 rfl rfl rfl (by omega) FSkipsExact.sc3 ?_
                  refine Plan.nil ?_
                  refine hK2032 _ _ ?_; clear hK2032
                  refine W.block ?_
                  refine W.seq_k fun K2033 hK2033 => ?_
                  refine W.regionT [(0, true), (1, true)] (by kernel_rfl) ?_
                  refine Plan.cmpP (a := ((script3.getD i_1770 ((0 : Int), 0#32, 0#32, ([] : List (Nat → BitVec 8)))).1 : Int)) (b := (1 : Int)) (p := (script3.getD i_1770 ((0 : Int), 0#32, 0#32, ([] : List (Nat → BitVec 8)))).1 = 1) rfl rfl rfl rfl icmp_eq ?_
                  refine Plan.assign_bool rfl rfl ?_
                  refine Plan.nil ?_
                  refine hK2033 _ _ ?_; clear hK2033
                  by_cases hc2034 : (script3.getD i_1770 ((0 : Int), 0#32, 0#32, ([] : List (Nat → BitVec 8)))).1 = 1
                  ·
                    replace hR := ifT hR hc2034
                    refine W.condT (congrArg Value.bool (decide_eq_true hc2034)) ?_
                    refine W.seq_k fun K2035 hK2035 => ?_
                    refine W.regionT [(0, false), (1, true), (2, true), (3, false), (4, true), (5, true), (6, false), (7, false), (8, true)] (by kernel_rfl) ?_
                    refine Plan.buildEL h2030 (fun _ => undef) FSkipsExact.slu66 FSkipsExact.sz71 rfl (EffO.keep PIn.nil) fun b2036 w2036 hb2036 h2036 => ?_
                    refine Plan.fieldAddr 3 FSkipsExact.fld113_3 rfl rfl ?_
                    refine Plan.load0 h2036 4 rfl rfl rfl (by omega) FSkipsExact.sc66 ?_
                    obtain ⟨hc2038, hR⟩ := hR
                    refine Plan.appendLO (D := D71) (X := ([] : List (Nat → BitVec 8))) (Y := ((script3.getD i_1770 ((0 : Int), 0#32, 0#32, ([] : List (Nat → BitVec 8)))).2.2.2)) (sz := 32) h2036 () (fun _ => 0#8) 0 LO.empty rfl FSkipsExact.el66 rfl FSkipsExact.slu66 rfl rfl rfl rfl (hv1794_3.app [_, _, _, _, _, _, _, _, _, _, _, _]) (fun _ _ h => h) hc2038.1 hc2038.2 (fun _ => EffO.wait rfl) fun a2037 pb2037 cap2037 F2037 w2037 ho2037 h2037 => ?_
                    simp only [List.cons_append, List.nil_append, List.set_cons_zero, List.set_cons_succ] at h2037
                    replace ho2037 : LO D71 [] a2037 pb2037 (([] : List (Nat → BitVec 8)) ++ ((script3.getD i_1770 ((0 : Int), 0#32, 0#32, ([] : List (Nat → BitVec 8)))).2.2.2)).length cap2037 F2037 (([] : List (Nat → BitVec 8)) ++ ((script3.getD i_1770 ((0 : Int), 0#32, 0#32, ([] : List (Nat → BitVec 8)))).2.2.2)) := ho2037.re (fun _ _ h => h)
                    refine Plan.buildArr (ps := [(32, fun q => VU .u8 ((upd (fun _ => 0#8) 0 (7#8)) q))]) FSkipsExact.arr71 FSkipsExact.z71 rfl rfl (by kernel_rfl) ?_
                    refine Plan.buildArr (ps := [(32, fun q => VU .u8 ((upd (fun _ => 0#8) 0 (8#8)) q))]) FSkipsExact.arr71 FSkipsExact.z71 rfl rfl (by kernel_rfl) ?_
                    refine Plan.buildLO (D := D71) (sz := 32) h2037 [((), (upd (fun _ => 0#8) 0 (7#8))), ((), (upd (fun _ => 0#8) 0 (8#8)))] FSkipsExact.slu66 FSkipsExact.sz71 FSkipsExact.zv71 (by decide) (by decide) rfl rfl rfl rfl (fun _ _ => trivial) (EffO.keep PIn.nil) fun b2040 w2040 F2040 hb2040 ho2040 h2040 => ?_
                    replace ho2040 : LO D71 [] (some ⟨b2040, 0, none⟩) (some b2040) ([(upd (fun _ => 0#8) 0 (7#8)), (upd (fun _ => 0#8) 0 (8#8))] : List (Nat → BitVec 8)).length 2 F2040 ([(upd (fun _ => 0#8) 0 (7#8)), (upd (fun _ => 0#8) 0 (8#8))] : List (Nat → BitVec 8)) := ho2040.re (fun _ _ h => h)
                    obtain ⟨hc2042, hR⟩ := hR
                    refine Plan.appendLO (D := D71) (X := (([] : List (Nat → BitVec 8)) ++ ((script3.getD i_1770 ((0 : Int), 0#32, 0#32, ([] : List (Nat → BitVec 8)))).2.2.2))) (Y := ([(upd (fun _ => 0#8) 0 (7#8)), (upd (fun _ => 0#8) 0 (8#8))] : List (Nat → BitVec 8))) (sz := 32) h2040 () (fun _ => 0#8) 1 ho2037 rfl FSkipsExact.el66 rfl FSkipsExact.slu66 rfl rfl rfl rfl (LO.lvf D71_flat ho2040 0 rfl) (fun _ _ h => h) hc2042.1 hc2042.2 (fun _ => EffO.keep PIn.nil) fun a2041 pb2041 cap2041 F2041 w2041 ho2041 h2041 => ?_
                    simp only [List.cons_append, List.nil_append, List.set_cons_zero, List.set_cons_succ] at h2041
                    replace ho2041 : LO D71 [] a2041 pb2041 ((([] : List (Nat → BitVec 8)) ++ ((script3.getD i_1770 ((0 : Int), 0#32, 0#32, ([] : List (Nat → BitVec 8)))).2.2.2)) ++ ([(upd (fun _ => 0#8) 0 (7#8)), (upd (fun _ => 0#8) 0 (8#8))] : List (Nat → BitVec 8))).length cap2041 F2041 ((([] : List (Nat → BitVec 8)) ++ ((script3.getD i_1770 ((0 : Int), 0#32, 0#32, ([] : List (Nat → BitVec 8)))).2.2.2)) ++ ([(upd (fun _ => 0#8) 0 (7#8)), (upd (fun _ => 0#8) 0 (8#8))] : List (Nat → BitVec 8))) := ho2041.re (fun _ _ h => h)
                    refine Plan.assign_slice rfl rfl ?_
                    refine Plan.nil ?_
                    refine hK2035 _ _ ?_; clear hK2035
                    refine W.seq_k fun K2043 hK2043 => ?_
                    refine W.regionT [(0, true), (1, true), (2, true), (3, true), (4, true), (5, true)] (by kernel_rfl) ?_
                    refine Plan.move_slice rfl rfl ?_
                    refine Plan.fieldAddr 3 FSkipsExact.fld113_3 rfl rfl ?_
                    refine Plan.load0 h2041 5 rfl rfl rfl (by omega) FSkipsExact.sc66 ?_
                    refine Plan.len FSkipsExact.isl66 rfl rfl ?_
                    obtain ⟨hc2044, hR⟩ := hR
                    have hm2045 : ((([] : List (Nat → BitVec 8)) ++ ((script3.getD i_1770 ((0 : Int), 0#32, 0#32, ([] : List (Nat → BitVec 8)))).2.2.2)) ++ ([(upd (fun _ => 0#8) 0 (7#8)), (upd (fun _ => 0#8) 0 (8#8))] : List (Nat → BitVec 8))).length ≤ cap2041 := ho2041.hc
                    refine Plan.slSl0 (hi := ((script3.getD i_1770 ((0 : Int), 0#32, 0#32, ([] : List (Nat → BitVec 8)))).2.2.2).length) FSkipsExact.sl66 rfl rfl rfl ⟨_, rfl⟩ (by omega) ?_
                    refine Plan.assign_slice rfl rfl ?_
                    refine Plan.nil ?_
                    refine hK2043 _ _ ?_; clear hK2043
                    refine W.seq_k fun K2046 hK2046 => ?_
                    refine W.regionD FSkipsExact.mixed [(0, true), (1, true), (2, true), (3, true), (4, true), (5, true), (6, true), (7, true), (8, true), (9, false), (10, true)] (by kernel_rfl) ?_
                    have h2047 := h2041.drew
                    refine Plan.move_ptr rfl rfl ?_
                    refine Plan.nilCheck rfl rfl ?_
                    refine Plan.fieldAddr0 FSkipsExact.fld110_0 rfl rfl ?_
                    refine Plan.load0 h2047 9 rfl rfl rfl (by omega) FSkipsExact.sc67 ?_
                    refine Plan.fieldAddr 1 FSkipsExact.fld113_1 rfl rfl ?_
                    refine Plan.load0 h2047 3 rfl rfl rfl (by omega) FSkipsExact.sc73 ?_
                    refine Plan.fieldAddr 2 FSkipsExact.fld113_2 rfl rfl ?_
                    refine Plan.load0 h2047 4 rfl rfl rfl (by omega) FSkipsExact.sc73 ?_
                    refine Plan.move_slice rfl rfl ?_
                    have h2048 := St.pickT (C := [_, _, _, _, _, _, _, _, _, _, _, _, _]) h2047 [6, 7, 0, 1, 2, 3, 4, 5, 8, 9, 10, 11, 12] (by decide)
                    simp only [pick, List.filterMap_cons, List.filterMap_nil, List.getElem?_cons_zero, List.getElem?_cons_succ, List.cons_append, List.nil_append] at h2048
                    obtain ⟨x_2050, x_2051, hr2049, hR⟩ := hR
                    refine Plan.call (vs := [.pointer (some ⟨b1771, 0, none⟩), VU .u32 ((script3.getD i_1770 ((0 : Int), 0#32, 0#32, ([] : List (Nat → BitVec 8)))).2.1), VU .u32 ((script3.getD i_1770 ((0 : Int), 0#32, 0#32, ([] : List (Nat → BitVec 8)))).2.2.1), .slice a2041 (((script3.getD i_1770 ((0 : Int), 0#32, 0#32, ([] : List (Nat → BitVec 8)))).2.2.2).length) cap2041]) rfl FSkipsExact.call36 rfl (skips_Table_Add_ok (w0 := w0) (by exact (LV.sgl0 (LO.lvf D71_flat ho2041 1 rfl) (hi := ((script3.getD i_1770 ((0 : Int), 0#32, 0#32, ([] : List (Nat → BitVec 8)))).2.2.2).length) hc2044)) hr2049 (show St B (w0.on [mapR kv2 D71 [] m1773 mp1774]) _ _ from h2048)) ?_
                    rintro _ w2052 ⟨rfl, h2052⟩
                    replace h2052 : St B (w0.on [mapR kv2 D71 [] m1773 x_2051]) _ _ := h2052
                    refine ⟨_, rfl, .inr ⟨rfl, ?_⟩⟩
                    refine Plan.assign_int rfl rfl ?_
                    refine Plan.nil ?_
                    refine hK2046 _ _ ?_; clear hK2046
                    refine W.seq_k fun K2053 hK2053 => ?_
                    refine W.seq_k fun K2082 hK2082 => ?_
                    refine W.regionD FSkipsExact.mixed [(0, true), (1, true), (2, true), (3, true), (4, true), (5, true), (6, true), (7, true), (8, true), (9, true), (10, false), (11, false), (12, true), (13, true), (14, true), (15, true), (16, true), (17, false), (18, true), (19, true), (20, true), (21, true), (22, true), (23, true), (24, true), (25, true), (26, true), (27, true), (28, true), (29, true), (30, true), (31, true), (32, true), (33, true), (34, true), (35, true), (36, true), (37, true), (38, true)] (by kernel_rfl) ?_
                    have h2083 := h2052.drew
                    refine Plan.move_int rfl rfl ?_
                    refine Plan.move_ptr rfl rfl ?_
                    refine Plan.nilCheck rfl rfl ?_
                    refine Plan.fieldAddr 1 FSkipsExact.fld110_1 rfl rfl ?_
                    refine Plan.load0 h2083 10 rfl rfl rfl (by omega) FSkipsExact.sc103 ?_
                    refine Plan.fieldAddr 1 FSkipsExact.fld113_1 rfl rfl ?_
                    refine Plan.load0 h2083 5 rfl rfl rfl (by omega) FSkipsExact.sc73 ?_
                    refine Plan.fieldAddr 2 FSkipsExact.fld113_2 rfl rfl ?_
                    refine Plan.load0 h2083 6 rfl rfl rfl (by omega) FSkipsExact.sc73 ?_
                    refine Plan.fieldAddr 3 FSkipsExact.fld113_3 rfl rfl ?_
                    refine Plan.sync ?_
                    refine Plan.load0 h2083 7 rfl rfl rfl (by omega) FSkipsExact.sc66 ?_
                    refine Plan.nil ?_
                    have h2084 := St.pickT (C := [_, _, _, _, _, _, _, _, _, _, _, _, _]) h2083 [11, 8, 12, 0, 1, 2, 3, 4, 5, 6, 7, 9, 10] (by decide)
                    simp only [pick, List.filterMap_cons, List.filterMap_nil, List.getElem?_cons_zero, List.getElem?_cons_succ, List.cons_append, List.nil_append] at h2084
                    obtain ⟨x_2086, x_2087, hr2085, hR⟩ := hR
                    refine Plan.call (vs := [.pointer (some ⟨b472, 0, none⟩), VU .u32 ((script3.getD i_1770 ((0 : Int), 0#32, 0#32, ([] : List (Nat → BitVec 8)))).2.1), VU .u32 ((script3.getD i_1770 ((0 : Int), 0#32, 0#32, ([] : List (Nat → BitVec 8)))).2.2.1), .slice ((b1794).1) (((script3.getD i_1770 ((0 : Int), 0#32, 0#32, ([] : List (Nat → BitVec 8)))).2.2.2).length) ((b1794).2)]) rfl FSkipsExact.call79 rfl (letheref15_Table_Add_ok (by exact hm1775) (by exact (hv1794_3.app [_, _, _, _, _, _, _, _, _, _])) hr2085 h2084) ?_
                    rintro _ w2093 ⟨aqtList2_2088, pqtList2_2089, nqtList2_2090, cqtList2_2091, FqtList2_2092, rfl, h2093, hf2093_0⟩
                    try dsimp only at hf2093_0
                    obtain rfl := hf2093_0.hl
                    refine ⟨_, rfl, .inr ⟨rfl, ?_⟩⟩
                    by_cases hc2094 : x_2050 ≠ x_2086
                    ·
                      replace hR := ifT hR hc2094
                      refine Plan.cmpV (a := (((x_2050 : Nat) : Int) : Int)) (b := (((x_2086 : Nat) : Int) : Int)) (p := x_2050 ≠ x_2086) (v := true) rfl rfl rfl rfl icmp_neN (decide_eq_true hc2094) ?_
                      refine Plan.move_bool rfl rfl ?_
                      refine Plan.passed rfl ?_
                      refine Plan.passed rfl ?_
                      refine Plan.passed rfl ?_
                      refine Plan.passed rfl ?_
                      refine Plan.passed rfl ?_
                      refine Plan.pickTb rfl rfl rfl ?_
                      refine Plan.move_bool rfl rfl ?_
                      refine Plan.passed rfl ?_
                      refine Plan.passed rfl ?_
                      refine Plan.passed rfl ?_
                      refine Plan.passed rfl ?_
                      refine Plan.passed rfl ?_
                      refine Plan.passed rfl ?_
                      refine Plan.passed rfl ?_
                      refine Plan.pickTb rfl rfl rfl ?_
                      refine Plan.move_bool rfl rfl ?_
                      refine Plan.passed rfl ?_
                      refine Plan.passed rfl ?_
                      refine Plan.passed rfl ?_
                      refine Plan.passed rfl ?_
                      refine Plan.passed rfl ?_
                      refine Plan.passed rfl ?_
                      refine Plan.passed rfl ?_
                      refine Plan.passed rfl ?_
                      refine Plan.pickTb rfl rfl rfl ?_
                      refine Plan.nil ?_
                      refine hK2082 _ _ ?_; clear hK2082
                      refine W.condT rfl ?_
                      refine W.seq_k fun K2095 hK2095 => ?_
                      refine W.regionT [(0, true)] (by kernel_rfl) ?_
                      refine Plan.assign_bool rfl rfl ?_
                      refine Plan.nil ?_
                      refine hK2095 _ _ ?_; clear hK2095
                      refine W.ret (thenR_ret (blockR_ret (thenR_ret (finR_ret ?_))))
                      have h2096 := St.pickT (C := [_, _, _, _, _, _, _, _, _, _, _, _, _]) h2093 [3, 4, 1, 0, 2, 11, 12] (by decide)
                      simp only [pick, List.filterMap_cons, List.filterMap_nil, List.getElem?_cons_zero, List.getElem?_cons_succ, List.cons_append, List.nil_append] at h2096
                      refine RetOk.mk (.tmp_bool rfl .nil) ?_
                      exact ⟨false, m1772, x_2051, x_2087, hR, b1771, m1773, x_2087.length, aqtList2_2088, pqtList2_2089, cqtList2_2091, FqtList2_2092, rfl, h2096, hf2093_0⟩
                    ·
                      replace hR := ifF hR hc2094
                      refine Plan.cmpV (a := (((x_2050 : Nat) : Int) : Int)) (b := (((x_2086 : Nat) : Int) : Int)) (p := x_2050 ≠ x_2086) (v := false) rfl rfl rfl rfl icmp_neN (decide_eq_false hc2094) ?_
                      refine Plan.move_bool rfl rfl ?_
                      refine Plan.move_slice rfl rfl ?_
                      refine Plan.fieldAddr 3 FSkipsExact.fld113_3 rfl rfl ?_
                      refine Plan.load0 h2093 10 rfl rfl rfl (by omega) FSkipsExact.sc66 ?_
                      obtain ⟨x_2098, hr2097, hR⟩ := hR
                      refine Plan.call (vs := [.slice a2041 (((script3.getD i_1770 ((0 : Int), 0#32, 0#32, ([] : List (Nat → BitVec 8)))).2.2.2).length) cap2041, .slice ((b1794).1) (((script3.getD i_1770 ((0 : Int), 0#32, 0#32, ([] : List (Nat → BitVec 8)))).2.2.2).length) ((b1794).2)]) rfl FSkipsExact.call80 rfl (lethelaw15_sameKeys_ok (by exact (LV.sgl0 (LO.lvf D71_flat ho2041 6 rfl) (hi := ((script3.getD i_1770 ((0 : Int), 0#32, 0#32, ([] : List (Nat → BitVec 8)))).2.2.2).length) hc2044)) (by exact (hv1794_3.app [_, _, _, _, _, _, _, _, _, _, _, _, _])) hr2097 h2093) ?_
                      rintro _ w2099 ⟨rfl, h2099⟩
                      refine ⟨_, rfl, .inr ⟨rfl, ?_⟩⟩
                      by_cases hc2100 : x_2098 = true
                      ·
                        replace hR := ifT hR hc2100
                        obtain rfl : x_2098 = true := hc2100
                        refine Plan.notT rfl rfl ?_
                        refine Plan.pickFb rfl rfl rfl ?_
                        refine Plan.move_bool rfl rfl ?_
                        refine Plan.move_slice rfl rfl ?_
                        refine Plan.move_slice rfl rfl ?_
                        refine Plan.len FSkipsExact.isl66 rfl rfl ?_
                        obtain ⟨hc2101, hR⟩ := hR
                        refine Plan.idxLVS (D := D71) (j := ((script3.getD i_1770 ((0 : Int), 0#32, 0#32, ([] : List (Nat → BitVec 8)))).2.2.2).length) h2099 (LO.lvf D71_flat ho2041 6 rfl) FSkipsExact.sl66 rfl rfl rfl hc2101 ?_
                        refine Plan.loadLV (D := D71) (X := ((([] : List (Nat → BitVec 8)) ++ ((script3.getD i_1770 ((0 : Int), 0#32, 0#32, ([] : List (Nat → BitVec 8)))).2.2.2)) ++ ([(upd (fun _ => 0#8) 0 (7#8)), (upd (fun _ => 0#8) 0 (8#8))] : List (Nat → BitVec 8)))) (j := ((script3.getD i_1770 ((0 : Int), 0#32, 0#32, ([] : List (Nat → BitVec 8)))).2.2.2).length) (sz := 32) h2099 (fun _ => 0#8) (LO.lvf D71_flat ho2041 6 rfl) rfl rfl hc2101 rfl FSkipsExact.agg71 fun b2102 r2102 hs2102 hr2102 => ?_
                        refine Plan.buildArr (ps := [(32, fun q => VU .u8 ((upd (fun _ => 0#8) 0 (7#8)) q))]) FSkipsExact.arr71 FSkipsExact.z71 rfl rfl (by kernel_rfl) ?_
                        by_cases hc2103 : (eqB 32 (((([] : List (Nat → BitVec 8)) ++ ((script3.getD i_1770 ((0 : Int), 0#32, 0#32, ([] : List (Nat → BitVec 8)))).2.2.2)) ++ ([(upd (fun _ => 0#8) 0 (7#8)), (upd (fun _ => 0#8) 0 (8#8))] : List (Nat → BitVec 8))).getD (((script3.getD i_1770 ((0 : Int), 0#32, 0#32, ([] : List (Nat → BitVec 8)))).2.2.2).length) (fun _ => 0#8)) (upd (fun _ => 0#8) 0 (7#8))) = true
                        ·
                          replace hR := ifT hR hc2103
                          refine Plan.neArrV (b := true) FSkipsExact.arrI71 rfl rfl rfl hc2103 ?_
                          refine Plan.pickFb rfl rfl rfl ?_
                          refine Plan.move_bool rfl rfl ?_
                          refine Plan.move_slice rfl rfl ?_
                          refine Plan.move_slice rfl rfl ?_
                          refine Plan.len FSkipsExact.isl66 rfl rfl ?_
                          obtain ⟨hc2104, hR⟩ := hR
                          refine Plan.addN (a := ((script3.getD i_1770 ((0 : Int), 0#32, 0#32, ([] : List (Nat → BitVec 8)))).2.2.2).length) (b := 1) rfl rfl rfl (by omega) ?_
                          obtain ⟨hc2105, hR⟩ := hR
                          refine Plan.idxLVS (D := D71) (j := ((((script3.getD i_1770 ((0 : Int), 0#32, 0#32, ([] : List (Nat → BitVec 8)))).2.2.2).length) + 1)) h2099 (LO.lvf D71_flat ho2041 6 rfl) FSkipsExact.sl66 rfl rfl rfl hc2105 ?_
                          refine Plan.loadLV (D := D71) (X := ((([] : List (Nat → BitVec 8)) ++ ((script3.getD i_1770 ((0 : Int), 0#32, 0#32, ([] : List (Nat → BitVec 8)))).2.2.2)) ++ ([(upd (fun _ => 0#8) 0 (7#8)), (upd (fun _ => 0#8) 0 (8#8))] : List (Nat → BitVec 8)))) (j := ((((script3.getD i_1770 ((0 : Int), 0#32, 0#32, ([] : List (Nat → BitVec 8)))).2.2.2).length) + 1)) (sz := 32) h2099 (fun _ => 0#8) (LO.lvf D71_flat ho2041 6 rfl) rfl rfl hc2105 rfl FSkipsExact.agg71 fun b2106 r2106 hs2106 hr2106 => ?_
                          refine Plan.buildArr (ps := [(32, fun q => VU .u8 ((upd (fun _ => 0#8) 0 (8#8)) q))]) FSkipsExact.arr71 FSkipsExact.z71 rfl rfl (by kernel_rfl) ?_
                          refine Plan.neArrV (b := (eqB 32 (((([] : List (Nat → BitVec 8)) ++ ((script3.getD i_1770 ((0 : Int), 0#32, 0#32, ([] : List (Nat → BitVec 8)))).2.2.2)) ++ ([(upd (fun _ => 0#8) 0 (7#8)), (upd (fun _ => 0#8) 0 (8#8))] : List (Nat → BitVec 8))).getD ((((script3.getD i_1770 ((0 : Int), 0#32, 0#32, ([] : List (Nat → BitVec 8)))).2.2.2).length) + 1) (fun _ => 0#8)) (upd (fun _ => 0#8) 0 (8#8)))) FSkipsExact.arrI71 rfl rfl rfl rfl ?_
                          refine Plan.pickFb rfl rfl rfl ?_
                          refine Plan.nil ?_
                          refine hK2082 _ _ ?_; clear hK2082
                          by_cases hc2107 : (eqB 32 (((([] : List (Nat → BitVec 8)) ++ ((script3.getD i_1770 ((0 : Int), 0#32, 0#32, ([] : List (Nat → BitVec 8)))).2.2.2)) ++ ([(upd (fun _ => 0#8) 0 (7#8)), (upd (fun _ => 0#8) 0 (8#8))] : List (Nat → BitVec 8))).getD ((((script3.getD i_1770 ((0 : Int), 0#32, 0#32, ([] : List (Nat → BitVec 8)))).2.2.2).length) + 1) (fun _ => 0#8)) (upd (fun _ => 0#8) 0 (8#8))) = true
                          ·
                            replace hR := ifT hR hc2107
                            refine W.condF (congrArg Value.bool (congrArg Bool.not hc2107)) ?_
                            refine W.skip ?_
                            refine hK2053 _ _ ?_; clear hK2053
                            refine W.seq_k fun K2108 hK2108 => ?_
                            refine W.regionT [(0, true)] (by kernel_rfl) ?_
                            refine Plan.assign_int rfl rfl ?_
                            refine Plan.nil ?_
                            refine hK2108 _ _ ?_; clear hK2108
                            obtain ⟨hI2126, hR02126⟩ := hR
                            refine W.cutN (fun e w => True ∧ EnvHas e [] ∧ St B (w0.on [mapR kv2 D71 [] m1773 x_2051]) (⟨some b472, 0, 1, fun _ => .slice aqtList2_2088 x_2087.length cqtList2_2091, true⟩ :: ⟨pqtList2_2089, 0, cqtList2_2091 * 34, FqtList2_2092, true⟩ :: ⟨some b472, 1, 1, fun _ => .int .i64 m474, true⟩ :: ⟨some b1771, 0, 1, fun _ => .int .i64 m1772, true⟩ :: ⟨some b1771, 1, 1, fun _ => .map (some m1773), true⟩ :: ⟨some b799, 0, 1, fun _ => .pointer (some ⟨b1771, 0, none⟩), true⟩ :: ⟨some b799, 1, 1, fun _ => .pointer (some ⟨b472, 0, none⟩), true⟩ :: L) w) ?_ ?_
                            ·
                              refine W.block ?_
                              have h2127 := St.pickT (C := [_, _, _, _, _, _, _, _, _, _, _, _, _]) h2099 [6, 0, 1, 2, 3, 4, 11, 12] (by decide)
                              simp only [pick, List.filterMap_cons, List.filterMap_nil, List.getElem?_cons_zero, List.getElem?_cons_succ, List.cons_append, List.nil_append] at h2127
                              refine W.iter hI2126 (fun (s2126 : ((List (Nat → BitVec 8)) × Nat)) e w => ∃ n_k2124 : Nat, ∃ ak2124 : Option Addr, ∃ pk2124 : Option Nat, ∃ ck2124 : Nat, ∃ Fk2124 : Nat → Value, EnvHas e [(6, .slice ak2124 (((script3.getD i_1770 ((0 : Int), 0#32, 0#32, ([] : List (Nat → BitVec 8)))).2.2.2).length) ck2124), (8, VN s2126.2)] ∧ St B (w0.on [mapR kv2 D71 [] m1773 x_2051]) (⟨pk2124, 0, ck2124 * 32, Fk2124, true⟩ :: ⟨some b472, 0, 1, fun _ => .slice aqtList2_2088 x_2087.length cqtList2_2091, true⟩ :: ⟨pqtList2_2089, 0, cqtList2_2091 * 34, FqtList2_2092, true⟩ :: ⟨some b472, 1, 1, fun _ => .int .i64 m474, true⟩ :: ⟨some b1771, 0, 1, fun _ => .int .i64 m1772, true⟩ :: ⟨some b1771, 1, 1, fun _ => .map (some m1773), true⟩ :: ⟨some b799, 0, 1, fun _ => .pointer (some ⟨b1771, 0, none⟩), true⟩ :: ⟨some b799, 1, 1, fun _ => .pointer (some ⟨b472, 0, none⟩), true⟩ :: L) w ∧ LO D71 [] ak2124 pk2124 n_k2124 ck2124 Fk2124 s2126.1 ∧ ((script3.getD i_1770 ((0 : Int), 0#32, 0#32, ([] : List (Nat → BitVec 8)))).2.2.2).length ≤ n_k2124) ⟨((([] : List (Nat → BitVec 8)) ++ ((script3.getD i_1770 ((0 : Int), 0#32, 0#32, ([] : List (Nat → BitVec 8)))).2.2.2)) ++ ([(upd (fun _ => 0#8) 0 (7#8)), (upd (fun _ => 0#8) 0 (8#8))] : List (Nat → BitVec 8))).length, a2041, pb2041, cap2041, F2041, (EnvHas.cons rfl (EnvHas.cons rfl EnvHas.nil)), h2127, ho2041, (by have hb0 : 0 ≤ ((script3.getD i_1770 ((0 : Int), 0#32, 0#32, ([] : List (Nat → BitVec 8)))).2.2.2).length ∧ ((script3.getD i_1770 ((0 : Int), 0#32, 0#32, ([] : List (Nat → BitVec 8)))).2.2.2).length ≤ ((([] : List (Nat → BitVec 8)) ++ ((script3.getD i_1770 ((0 : Int), 0#32, 0#32, ([] : List (Nat → BitVec 8)))).2.2.2)) ++ ([(upd (fun _ => 0#8) 0 (7#8)), (upd (fun _ => 0#8) 0 (8#8))] : List (Nat → BitVec 8))).length := hc2044; first | exact hb0.2 | omega)⟩ ?_
                              rintro ⟨k2124, i_2125⟩ o2126 hR hx2126 ev2128 wl2128 ⟨n_k2124, ak2124, pk2124, ck2124, Fk2124, he2128, h2128, hk2124, hbk2124⟩
                              try dsimp only at he2128 h2128 hk2124 hbk2124
                              obtain rfl : List.length (α := (Nat → BitVec 8)) k2124 = n_k2124 := hk2124.hl
                              obtain ⟨ev2128, rfl⟩ := he2128.open
                              unfold lethelaw15_SkipsExact_l2 at hR
                              refine W.seq_k fun K2129 hK2129 => ?_
                              refine W.seq_k fun K2130 hK2130 => ?_
                              refine W.regionT [(0, true), (1, true), (2, true), (3, true)] (by kernel_rfl) ?_
                              refine Plan.move_int rfl rfl ?_
                              refine Plan.move_slice rfl rfl ?_
                              refine Plan.len FSkipsExact.isl66 rfl rfl ?_
                              refine Plan.cmpP (a := (((i_2125 : Nat) : Int) : Int)) (b := (((((script3.getD i_1770 ((0 : Int), 0#32, 0#32, ([] : List (Nat → BitVec 8)))).2.2.2).length : Nat) : Int) : Int)) (p := i_2125 < ((script3.getD i_1770 ((0 : Int), 0#32, 0#32, ([] : List (Nat → BitVec 8)))).2.2.2).length) rfl rfl rfl rfl icmp_ltN ?_
                              refine Plan.nil ?_
                              refine hK2130 _ _ ?_; clear hK2130
                              by_cases hc2131 : i_2125 < ((script3.getD i_1770 ((0 : Int), 0#32, 0#32, ([] : List (Nat → BitVec 8)))).2.2.2).length
                              ·
                                replace hR := ifT hR hc2131
                                refine W.condT (congrArg Value.bool (decide_eq_true hc2131)) ?_
                                refine W.skip ?_
                                refine hK2129 _ _ ?_; clear hK2129
                                refine W.seq_k fun K2132 hK2132 => ?_
                                refine W.block ?_
                                refine W.regionT [(0, true), (1, true), (2, true), (3, true), (4, false)] (by kernel_rfl) ?_
                                refine Plan.move_slice rfl rfl ?_
                                refine Plan.move_int rfl rfl ?_
                                refine Plan.buildArr (ps := [(32, fun q => VU .u8 ((upd (fun _ => 0#8) 0 (238#8)) q))]) FSkipsExact.arr71 FSkipsExact.z71 rfl rfl (by kernel_rfl) ?_
                                obtain ⟨hc2133, hR⟩ := hR
                                refine Plan.idxLVS (D := D71) (j := i_2125) h2128 (LV.sgl0 (LO.lvf D71_flat hk2124 0 rfl) (hi := ((script3.getD i_1770 ((0 : Int), 0#32, 0#32, ([] : List (Nat → BitVec 8)))).2.2.2).length) (by omega)) FSkipsExact.sl66 rfl rfl rfl hc2133 ?_
                                refine Plan.storeLO (D := D71) (j := i_2125) (sz := 32) h2128 () (upd (fun _ => 0#8) 0 (238#8)) 0 hk2124 trivial rfl rfl rfl rfl (by have hb0 : 0 ≤ ((script3.getD i_1770 ((0 : Int), 0#32, 0#32, ([] : List (Nat → BitVec 8)))).2.2.2).length ∧ ((script3.getD i_1770 ((0 : Int), 0#32, 0#32, ([] : List (Nat → BitVec 8)))).2.2.2).length ≤ k2124.length := (by omega); have hb1 : i_2125 < ((script3.getD i_1770 ((0 : Int), 0#32, 0#32, ([] : List (Nat → BitVec 8)))).2.2.2).length := hc2133; omega) rfl FSkipsExact.sz71 (fun _ => EffO.keep PIn.nil) fun w2134 F2134 ho2134 h2134 => ?_
                                simp only [List.cons_append, List.nil_append, List.set_cons_zero, List.set_cons_succ] at h2134
                                have e2134 : (k2124.set i_2125 (upd (fun _ => 0#8) 0 (238#8))).length = k2124.length := List.length_set
                                refine Plan.nil ?_
                                refine blockR_norm ?_
                                refine hK2132 _ _ ?_; clear hK2132
                                refine W.regionT [(0, true), (1, true), (2, true)] (by kernel_rfl) ?_
                                refine Plan.move_int rfl rfl ?_
                                obtain ⟨hc2135, hR⟩ := hR
                                refine Plan.addN (a := i_2125) (b := 1) rfl rfl rfl (by omega) ?_
                                refine Plan.assign_int rfl rfl ?_
                                refine Plan.nil ?_
                                exact iterR_norm ⟨_, hR, k2124.length, ak2124, pk2124, ck2124, F2134, (EnvHas.cons rfl (EnvHas.cons rfl EnvHas.nil)), h2134, (show LO D71 [] _ _ k2124.length _ _ _ from ho2134), (by have hb0 : 0 ≤ ((script3.getD i_1770 ((0 : Int), 0#32, 0#32, ([] : List (Nat → BitVec 8)))).2.2.2).length ∧ ((script3.getD i_1770 ((0 : Int), 0#32, 0#32, ([] : List (Nat → BitVec 8)))).2.2.2).length ≤ k2124.length := (by omega); first | exact hb0.2 | omega)⟩
                              ·
                                replace hR := ifF hR hc2131
                                refine W.condF (congrArg Value.bool (decide_eq_false hc2131)) ?_
                                refine W.exit (thenR_exit (iterR_exit (blockR_here ?_)))
                                have h2136 := St.pickT (C := [_, _, _, _, _, _, _, _]) h2128 [1, 2, 3, 4, 5, 6, 7] (by decide)
                                simp only [pick, List.filterMap_cons, List.filterMap_nil, List.getElem?_cons_zero, List.getElem?_cons_succ, List.cons_append, List.nil_append] at h2136
                                exact ⟨trivial, EnvHas.nil, h2136⟩
                            ·
                              rintro ev2137 wl2137 ⟨hy2137, he2137, h2137⟩
                              obtain ⟨ev2137, rfl⟩ := he2137.open
                              replace hR := hR02126
                              refine blockR_norm ?_
                              refine hK2031 _ _ ?_; clear hK2031
                              refine W.seq_k fun K2138 hK2138 => ?_
                              refine W.regionT [(0, true)] (by kernel_rfl) ?_
                              refine Plan.assign_bool rfl rfl ?_
                              refine Plan.nil ?_
                              refine hK2138 _ _ ?_; clear hK2138
                              refine W.ret (finR_ret ?_)
                              have h2139 := St.pickT (C := [_, _, _, _, _, _, _]) h2137 [3, 4, 1, 0, 2, 5, 6] (by decide)
                              simp only [pick, List.filterMap_cons, List.filterMap_nil, List.getElem?_cons_zero, List.getElem?_cons_succ, List.cons_append, List.nil_append] at h2139
                              refine RetOk.mk (.tmp_bool rfl .nil) ?_
                              exact ⟨true, m1772, x_2051, x_2087, hR, b1771, m1773, x_2087.length, aqtList2_2088, pqtList2_2089, cqtList2_2091, FqtList2_2092, rfl, h2139, hf2093_0⟩
                          ·
                            replace hR := ifF hR hc2107
                            refine W.condT (congrArg Value.bool (congrArg Bool.not (Bool.eq_false_iff.2 hc2107))) ?_
                            refine W.seq_k fun K2140 hK2140 => ?_
                            refine W.regionT [(0, true)] (by kernel_rfl) ?_
                            refine Plan.assign_bool rfl rfl ?_
                            refine Plan.nil ?_
                            refine hK2140 _ _ ?_; clear hK2140
                            refine W.ret (thenR_ret (blockR_ret (thenR_ret (finR_ret ?_))))
                            have h2141 := St.pickT (C := [_, _, _, _, _, _, _, _, _, _, _, _, _]) h2099 [3, 4, 1, 0, 2, 11, 12] (by decide)
                            simp only [pick, List.filterMap_cons, List.filterMap_nil, List.getElem?_cons_zero, List.getElem?_cons_succ, List.cons_append, List.nil_append] at h2141
                            refine RetOk.mk (.tmp_bool rfl .nil) ?_
                            exact ⟨false, m1772, x_2051, x_2087, hR, b1771, m1773, x_2087.length, aqtList2_2088, pqtList2_2089, cqtList2_2091, FqtList2_2092, rfl, h2141, hf2093_0⟩
                        ·
                          replace hR := ifF hR hc2103
                          refine Plan.neArrV (b := false) FSkipsExact.arrI71 rfl rfl rfl (Bool.eq_false_iff.2 hc2103) ?_
                          refine Plan.pickFb rfl rfl rfl ?_
                          refine Plan.move_bool rfl rfl ?_
                          refine Plan.passed rfl ?_
                          refine Plan.passed rfl ?_
                          refine Plan.passed rfl ?_
                          refine Plan.passed rfl ?_
                          refine Plan.passed rfl ?_
                          refine Plan.passed rfl ?_
                          refine Plan.passed rfl ?_
                          refine Plan.passed rfl ?_
                          refine Plan.pickTb rfl rfl rfl ?_
                          refine Plan.nil ?_
                          refine hK2082 _ _ ?_; clear hK2082
                          refine W.condT rfl ?_
                          refine W.seq_k fun K2142 hK2142 => ?_
                          refine W.regionT [(0, true)] (by kernel_rfl) ?_
                          refine Plan.assign_bool rfl rfl ?_
                          refine Plan.nil ?_
                          refine hK2142 _ _ ?_; clear hK2142
                          refine W.ret (thenR_ret (blockR_ret (thenR_ret (finR_ret ?_))))
                          have h2143 := St.pickT (C := [_, _, _, _, _, _, _, _, _, _, _, _, _]) h2099 [3, 4, 1, 0, 2, 11, 12] (by decide)
                          simp only [pick, List.filterMap_cons, List.filterMap_nil, List.getElem?_cons_zero, List.getElem?_cons_succ, List.cons_append, List.nil_append] at h2143
                          refine RetOk.mk (.tmp_bool rfl .nil) ?_
                          exact ⟨false, m1772, x_2051, x_2087, hR, b1771, m1773, x_2087.length, aqtList2_2088, pqtList2_2089, cqtList2_2091, FqtList2_2092, rfl, h2143, hf2093_0⟩
                      ·
                        replace hR := ifF hR hc2100
                        obtain rfl : x_2098 = false := Bool.eq_false_iff.2 hc2100
                        refine Plan.notF rfl rfl ?_
                        refine Plan.pickFb rfl rfl rfl ?_
                        refine Plan.move_bool rfl rfl ?_
                        refine Plan.passed rfl ?_
                        refine Plan.passed rfl ?_
                        refine Plan.passed rfl ?_
                        refine Plan.passed rfl ?_
                        refine Plan.passed rfl ?_
                        refine Plan.passed rfl ?_
                        refine Plan.passed rfl ?_
                        refine Plan.pickTb rfl rfl rfl ?_
                        refine Plan.move_bool rfl rfl ?_
                        refine Plan.passed rfl ?_
                        refine Plan.passed rfl ?_
                        refine Plan.passed rfl ?_
                        refine Plan.passed rfl ?_
                        refine Plan.passed rfl ?_
                        refine Plan.passed rfl ?_
                        refine Plan.passed rfl ?_
                        refine Plan.passed rfl ?_
                        refine Plan.pickTb rfl rfl rfl ?_
                        refine Plan.nil ?_
                        refine hK2082 _ _ ?_; clear hK2082
                        refine W.condT rfl ?_
                        refine W.seq_k fun K2144 hK2144 => ?_
                        refine W.regionT [(0, true)] (by kernel_rfl) ?_
                        refine Plan.assign_bool rfl rfl ?_
                        refine Plan.nil ?_
                        refine hK2144 _ _ ?_; clear hK2144
                        refine W.ret (thenR_ret (blockR_ret (thenR_ret (finR_ret ?_))))
                        have h2145 := St.pickT (C := [_, _, _, _, _, _, _, _, _, _, _, _, _]) h2099 [3, 4, 1, 0, 2, 11, 12] (by decide)
                        simp only [pick, List.filterMap_cons, List.filterMap_nil, List.getElem?_cons_zero, List.getElem?_cons_succ, List.cons_append, List.nil_append] at h2145
                        refine RetOk.mk (.tmp_bool rfl .nil) ?_
                        exact ⟨false, m1772, x_2051, x_2087, hR, b1771, m1773, x_2087.length, aqtList2_2088, pqtList2_2089, cqtList2_2091, FqtList2_2092, rfl, h2145, hf2093_0⟩
                  ·
                    replace hR := ifF hR hc2034
                    refine W.condF (congrArg Value.bool (decide_eq_false hc2034)) ?_
                    refine W.seq_k fun K2146 hK2146 => ?_
                    refine W.regionT [(0, true), (1, true)] (by kernel_rfl) ?_
                    refine Plan.cmpP (a := ((script3.getD i_1770 ((0 : Int), 0#32, 0#32, ([] : List (Nat → BitVec 8)))).1 : Int)) (b := (2 : Int)) (p := (script3.getD i_1770 ((0 : Int), 0#32, 0#32, ([] : List (Nat → BitVec 8)))).1 = 2) rfl rfl rfl rfl icmp_eq ?_
                    refine Plan.assign_bool rfl rfl ?_
                    refine Plan.nil ?_
                    refine hK2146 _ _ ?_; clear hK2146
                    by_cases hc2147 : (script3.getD i_1770 ((0 : Int), 0#32, 0#32, ([] : List (Nat → BitVec 8)))).1 = 2
                    ·
                      replace hR := ifT hR hc2147
                      refine W.condT (congrArg Value.bool (decide_eq_true hc2147)) ?_
                      refine W.seq_k fun K2148 hK2148 => ?_
                      refine W.regionX (B := B) (L := L) FSkipsExact.mixed [⟨12, 9, 71, [(32, fun q => VU .u8 ((fun _ => 0#8) q))]⟩] [(0, true), (1, true), (2, true), (3, true), (4, true), (5, true), (6, true), (7, true)] [[(8, false), (9, true), (10, true), (11, true)]] [(13, false), (14, true)] (by kernel_rfl) (by kernel_rfl) (.cons FSkipsExact.z71 .nil) ?_
                      have h2149 := h2030.drew
                      refine Plan.move_ptr rfl rfl ?_
                      refine Plan.nilCheck rfl rfl ?_
                      refine Plan.fieldAddr0 FSkipsExact.fld110_0 rfl rfl ?_
                      refine Plan.load0 h2149 7 rfl rfl rfl (by omega) FSkipsExact.sc67 ?_
                      refine Plan.fieldAddr 1 FSkipsExact.fld113_1 rfl rfl ?_
                      refine Plan.load0 h2149 1 rfl rfl rfl (by omega) FSkipsExact.sc73 ?_
                      refine Plan.fieldAddr 2 FSkipsExact.fld113_2 rfl rfl ?_
                      refine Plan.load0 h2149 2 rfl rfl rfl (by omega) FSkipsExact.sc73 ?_
                      refine Plan.nil ⟨_, [_, _, _, _, _, _, _, _, _, _, _], h2149, (PIn.cons 2 rfl (PIn.cons 1 rfl (PIn.cons 7 rfl PIn.nil))), ?_⟩
                      refine PX.step fun C2150 z2150 w2150 h2150 => ?_
                      simp only [List.cons_append, List.nil_append] at h2150
                      have h2151 := St.pickT (C := [_, _, _, _, _, _, _, _, _, _, _]) h2150 [4, 5, 0, 1, 2, 3, 6, 7, 8, 9, 10] (by decide)
                      simp only [pick, List.filterMap_cons, List.filterMap_nil, List.getElem?_cons_zero, List.getElem?_cons_succ, List.cons_append, List.nil_append] at h2151
                      obtain ⟨x_2153, x_2154, hr2152, hR⟩ := hR
                      refine Plan.call (vs := [.pointer (some ⟨b1771, 0, none⟩), VU .u32 ((script3.getD i_1770 ((0 : Int), 0#32, 0#32, ([] : List (Nat → BitVec 8)))).2.1), VU .u32 ((script3.getD i_1770 ((0 : Int), 0#32, 0#32, ([] : List (Nat → BitVec 8)))).2.2.1)]) rfl FSkipsExact.call38 rfl (skips_Table_Find_ok (w0 := w0) hr2152 (show St B (w0.on [mapR kv2 D71 [] m1773 mp1774]) _ _ from h2151)) ?_
                      rintro _ w2155 ⟨rfl, h2155⟩
                      replace h2155 : St B (w0.on [mapR kv2 D71 [] m1773 mp1774]) _ _ := h2155
                      refine ⟨_, rfl, .inr ⟨rfl, ?_⟩⟩
                      refine Plan.move_tuple rfl rfl ?_
                      refine Plan.extract_agg rfl rfl rfl ?_
                      refine Plan.extract_int rfl rfl rfl ?_
                      refine Plan.nil ⟨_, [_, _, _, _, _, _, _, _, _, _, _], h2155, PIn.nil, ?_⟩
                      refine PX.done (KE.step fun b2156_12 => (KE.fin fun w2156 h2156 => ?_))
                      simp only [rngs, Nat.zero_add, Nat.reduceAdd, List.cons_append, List.nil_append] at h2156
                      refine Plan.storeA (f' := fun q => VU .u8 (x_2153 q)) h2156 11 rfl rfl rfl rfl (fun _ _ => rfl) FSkipsExact.sz71 rfl fun w2157 h2157 => ?_
                      simp only [List.cons_append, List.nil_append, List.set_cons_zero, List.set_cons_succ] at h2157
                      refine Plan.assign_int rfl rfl ?_
                      refine Plan.nil ?_
                      refine hK2148 _ _ ?_; clear hK2148
                      refine W.seq_k fun K2158 hK2158 => ?_
                      refine W.regionX (B := B) (L := L) FSkipsExact.mixed [⟨12, 11, 71, [(32, fun q => VU .u8 ((fun _ => 0#8) q))]⟩] [(0, true), (1, true), (2, true), (3, true), (4, true), (5, true), (6, true), (7, true)] [[(8, false), (9, true), (10, true), (11, true)]] [(13, false), (14, true)] (by kernel_rfl) (by kernel_rfl) (.cons FSkipsExact.z71 .nil) ?_
                      have h2159 := h2157.drew
                      refine Plan.move_ptr rfl rfl ?_
                      refine Plan.nilCheck rfl rfl ?_
                      refine Plan.fieldAddr 1 FSkipsExact.fld110_1 rfl rfl ?_
                      refine Plan.load0 h2159 8 rfl rfl rfl (by omega) FSkipsExact.sc103 ?_
                      refine Plan.fieldAddr 1 FSkipsExact.fld113_1 rfl rfl ?_
                      refine Plan.load0 h2159 3 rfl rfl rfl (by omega) FSkipsExact.sc73 ?_
                      refine Plan.fieldAddr 2 FSkipsExact.fld113_2 rfl rfl ?_
                      refine Plan.load0 h2159 4 rfl rfl rfl (by omega) FSkipsExact.sc73 ?_
                      refine Plan.nil ⟨_, [_, _, _, _, _, _, _, _, _, _, _, _], h2159, (PIn.cons 4 rfl (PIn.cons 3 rfl (PIn.cons 8 rfl PIn.nil))), ?_⟩
                      refine PX.step fun C2160 z2160 w2160 h2160 => ?_
                      simp only [List.cons_append, List.nil_append] at h2160
                      have h2161 := St.pickT (C := [_, _, _, _, _, _, _, _, _, _, _, _]) h2160 [9, 10, 0, 1, 2, 3, 4, 5, 6, 7, 8, 11] (by decide)
                      simp only [pick, List.filterMap_cons, List.filterMap_nil, List.getElem?_cons_zero, List.getElem?_cons_succ, List.cons_append, List.nil_append] at h2161
                      obtain ⟨x_2163, x_2164, hr2162, hR⟩ := hR
                      refine Plan.call (vs := [.pointer (some ⟨b472, 0, none⟩), VU .u32 ((script3.getD i_1770 ((0 : Int), 0#32, 0#32, ([] : List (Nat → BitVec 8)))).2.1), VU .u32 ((script3.getD i_1770 ((0 : Int), 0#32, 0#32, ([] : List (Nat → BitVec 8)))).2.2.1)]) rfl FSkipsExact.call81 rfl (letheref15_Table_Find_ok (by exact (LO.lvf D81_flat hm1775 6 rfl)) hr2162 h2161) ?_
                      rintro _ w2165 ⟨rfl, h2165⟩
                      refine ⟨_, rfl, .inr ⟨rfl, ?_⟩⟩
                      refine Plan.move_tuple rfl rfl ?_
                      refine Plan.extract_agg rfl rfl rfl ?_
                      refine Plan.extract_int rfl rfl rfl ?_
                      refine Plan.nil ⟨_, [_, _, _, _, _, _, _, _, _, _, _, _], h2165, PIn.nil, ?_⟩
                      refine PX.done (KE.step fun b2166_12 => (KE.fin fun w2166 h2166 => ?_))
                      simp only [rngs, Nat.zero_add, Nat.reduceAdd, List.cons_append, List.nil_append] at h2166
                      refine Plan.storeA (f' := fun q => VU .u8 (x_2163 q)) h2166 12 rfl rfl rfl rfl (fun _ _ => rfl) FSkipsExact.sz71 rfl fun w2167 h2167 => ?_
                      simp only [List.cons_append, List.nil_append, List.set_cons_zero, List.set_cons_succ] at h2167
                      refine Plan.assign_int rfl rfl ?_
                      refine Plan.nil ?_
                      refine hK2158 _ _ ?_; clear hK2158
                      refine W.seq_k fun K2168 hK2168 => ?_
                      refine W.regionT [(0, true), (1, true), (2, true), (3, true), (4, true), (5, true), (6, true), (7, true), (8, true)] (by kernel_rfl) ?_
                      refine Plan.loadA1 h2167 11 rfl rfl rfl FSkipsExact.agg71 ?_
                      refine Plan.loadA1 h2167 12 rfl rfl rfl FSkipsExact.agg71 ?_
                      by_cases hc2169 : (eqB 32 x_2153 x_2163) = true
                      ·
                        replace hR := ifT hR hc2169
                        refine Plan.eqArrV (b := true) FSkipsExact.arrI71 rfl rfl rfl hc2169 ?_
                        refine Plan.move_bool rfl rfl ?_
                        refine Plan.move_int rfl rfl ?_
                        refine Plan.move_int rfl rfl ?_
                        refine Plan.cmpP (a := (((x_2154 : Nat) : Int) : Int)) (b := (((x_2164 : Nat) : Int) : Int)) (p := x_2154 = x_2164) rfl rfl rfl rfl icmp_eqN ?_
                        refine Plan.pickTb rfl rfl rfl ?_
                        refine Plan.assign_bool rfl rfl ?_
                        refine Plan.nil ?_
                        refine hK2168 _ _ ?_; clear hK2168
                        refine W.ret (blockR_ret (thenR_ret (finR_ret ?_)))
                        have h2170 := St.pickT (C := [_, _, _, _, _, _, _, _, _, _, _, _, _]) h2167 [2, 3, 8, 0, 1, 9, 10] (by decide)
                        simp only [pick, List.filterMap_cons, List.filterMap_nil, List.getElem?_cons_zero, List.getElem?_cons_succ, List.cons_append, List.nil_append] at h2170
                        refine RetOk.mk (.tmp_bool rfl .nil) ?_
                        exact ⟨(decide (x_2154 = x_2164)), m1772, mp1774, m1775, hR, b1771, m1773, m1775.length, am1775, pm1775, cm1775, Fm1775, rfl, h2170, hm1775⟩
                      ·
                        replace hR := ifF hR hc2169
                        refine Plan.eqArrV (b := false) FSkipsExact.arrI71 rfl rfl rfl (Bool.eq_false_iff.2 hc2169) ?_
                        refine Plan.move_bool rfl rfl ?_
                        refine Plan.passed rfl ?_
                        refine Plan.passed rfl ?_
                        refine Plan.passed rfl ?_
                        refine Plan.pickFb rfl rfl rfl ?_
                        refine Plan.assign_bool rfl rfl ?_
                        refine Plan.nil ?_
                        refine hK2168 _ _ ?_; clear hK2168
                        refine W.ret (blockR_ret (thenR_ret (finR_ret ?_)))
                        have h2171 := St.pickT (C := [_, _, _, _, _, _, _, _, _, _, _, _, _]) h2167 [2, 3, 8, 0, 1, 9, 10] (by decide)
                        simp only [pick, List.filterMap_cons, List.filterMap_nil, List.getElem?_cons_zero, List.getElem?_cons_succ, List.cons_append, List.nil_append] at h2171
                        refine RetOk.mk (.tmp_bool rfl .nil) ?_
                        exact ⟨false, m1772, mp1774, m1775, hR, b1771, m1773, m1775.length, am1775, pm1775, cm1775, Fm1775, rfl, h2171, hm1775⟩
                    ·
                      replace hR := ifF hR hc2147
                      refine W.condF (congrArg Value.bool (decide_eq_false hc2147)) ?_
                      refine W.seq_k fun K2172 hK2172 => ?_
                      refine W.regionT [(0, true), (1, true)] (by kernel_rfl) ?_
                      refine Plan.cmpP (a := ((script3.getD i_1770 ((0 : Int), 0#32, 0#32, ([] : List (Nat → BitVec 8)))).1 : Int)) (b := (3 : Int)) (p := (script3.getD i_1770 ((0 : Int), 0#32, 0#32, ([] : List (Nat → BitVec 8)))).1 = 3) rfl rfl rfl rfl icmp_eq ?_
                      refine Plan.assign_bool rfl rfl ?_
                      refine Plan.nil ?_
                      refine hK2172 _ _ ?_; clear hK2172
                      by_cases hc2173 : (script3.getD i_1770 ((0 : Int), 0#32, 0#32, ([] : List (Nat → BitVec 8)))).1 = 3
                      ·
                        replace hR := ifT hR hc2173
                        refine W.condT (congrArg Value.bool (decide_eq_true hc2173)) ?_
                        refine W.seq_k fun K2174 hK2174 => ?_
                        refine W.regionX (B := B) (L := L) FSkipsExact.mixed [⟨12, 13, 71, [(32, fun q => VU .u8 ((fun _ => 0#8) q))]⟩] [(0, true), (1, true), (2, true), (3, true), (4, true), (5, true), (6, true), (7, true)] [[(8, false), (9, true), (10, true), (11, true)]] [(13, false), (14, true)] (by kernel_rfl) (by kernel_rfl) (.cons FSkipsExact.z71 .nil) ?_
                        have h2175 := h2030.drew
                        refine Plan.move_ptr rfl rfl ?_
                        refine Plan.nilCheck rfl rfl ?_
                        refine Plan.fieldAddr0 FSkipsExact.fld110_0 rfl rfl ?_
                        refine Plan.load0 h2175 7 rfl rfl rfl (by omega) FSkipsExact.sc67 ?_
                        refine Plan.fieldAddr 1 FSkipsExact.fld113_1 rfl rfl ?_
                        refine Plan.load0 h2175 1 rfl rfl rfl (by omega) FSkipsExact.sc73 ?_
                        refine Plan.fieldAddr 2 FSkipsExact.fld113_2 rfl rfl ?_
                        refine Plan.load0 h2175 2 rfl rfl rfl (by omega) FSkipsExact.sc73 ?_
                        refine Plan.nil ⟨_, [_, _, _, _, _, _, _, _, _, _, _], h2175, (PIn.cons 2 rfl (PIn.cons 1 rfl (PIn.cons 7 rfl PIn.nil))), ?_⟩
                        refine PX.step fun C2176 z2176 w2176 h2176 => ?_
                        simp only [List.cons_append, List.nil_append] at h2176
                        have h2177 := St.pickT (C := [_, _, _, _, _, _, _, _, _, _, _]) h2176 [4, 5, 0, 1, 2, 3, 6, 7, 8, 9, 10] (by decide)
                        simp only [pick, List.filterMap_cons, List.filterMap_nil, List.getElem?_cons_zero, List.getElem?_cons_succ, List.cons_append, List.nil_append] at h2177
                        obtain ⟨x_2179, x_2180, x_2181, hr2178, hR⟩ := hR
                        refine Plan.call (vs := [.pointer (some ⟨b1771, 0, none⟩), VU .u32 ((script3.getD i_1770 ((0 : Int), 0#32, 0#32, ([] : List (Nat → BitVec 8)))).2.1), VU .u32 ((script3.getD i_1770 ((0 : Int), 0#32, 0#32, ([] : List (Nat → BitVec 8)))).2.2.1)]) rfl FSkipsExact.call39 rfl (skips_Table_Take_ok (w0 := w0) hr2178 (show St B (w0.on [mapR kv2 D71 [] m1773 mp1774]) _ _ from h2177)) ?_
                        rintro _ w2182 ⟨rfl, h2182⟩
                        replace h2182 : St B (w0.on [mapR kv2 D71 [] m1773 x_2181]) _ _ := h2182
                        refine ⟨_, rfl, .inr ⟨rfl, ?_⟩⟩
                        refine Plan.move_tuple rfl rfl ?_
                        refine Plan.extract_agg rfl rfl rfl ?_
                        refine Plan.extract_int rfl rfl rfl ?_
                        refine Plan.nil ⟨_, [_, _, _, _, _, _, _, _, _, _, _], h2182, PIn.nil, ?_⟩
                        refine PX.done (KE.step fun b2183_12 => (KE.fin fun w2183 h2183 => ?_))
                        simp only [rngs, Nat.zero_add, Nat.reduceAdd, List.cons_append, List.nil_append] at h2183
                        refine Plan.storeA (f' := fun q => VU .u8 (x_2179 q)) h2183 11 rfl rfl rfl rfl (fun _ _ => rfl) FSkipsExact.sz71 rfl fun w2184 h2184 => ?_
                        simp only [List.cons_append, List.nil_append, List.set_cons_zero, List.set_cons_succ] at h2184
                        refine Plan.assign_int rfl rfl ?_
                        refine Plan.nil ?_
                        refine hK2174 _ _ ?_; clear hK2174
                        refine W.seq_k fun K2185 hK2185 => ?_
                        refine W.regionX (B := B) (L := L) FSkipsExact.mixed [⟨12, 15, 71, [(32, fun q => VU .u8 ((fun _ => 0#8) q))]⟩] [(0, true), (1, true), (2, true), (3, true), (4, true), (5, true), (6, true), (7, true)] [[(8, false), (9, true), (10, true), (11, true)]] [(13, false), (14, true)] (by kernel_rfl) (by kernel_rfl) (.cons FSkipsExact.z71 .nil) ?_
                        have h2186 := h2184.drew
                        refine Plan.move_ptr rfl rfl ?_
                        refine Plan.nilCheck rfl rfl ?_
                        refine Plan.fieldAddr 1 FSkipsExact.fld110_1 rfl rfl ?_
                        refine Plan.load0 h2186 8 rfl rfl rfl (by omega) FSkipsExact.sc103 ?_
                        refine Plan.fieldAddr 1 FSkipsExact.fld113_1 rfl rfl ?_
                        refine Plan.load0 h2186 3 rfl rfl rfl (by omega) FSkipsExact.sc73 ?_
                        refine Plan.fieldAddr 2 FSkipsExact.fld113_2 rfl rfl ?_
                        refine Plan.load0 h2186 4 rfl rfl rfl (by omega) FSkipsExact.sc73 ?_
                        refine Plan.nil ⟨_, [_, _, _, _, _, _, _, _, _, _, _, _], h2186, (PIn.cons 4 rfl (PIn.cons 3 rfl (PIn.cons 8 rfl PIn.nil))), ?_⟩
                        refine PX.step fun C2187 z2187 w2187 h2187 => ?_
                        simp only [List.cons_append, List.nil_append] at h2187
                        have h2188 := St.pickT (C := [_, _, _, _, _, _, _, _, _, _, _, _]) h2187 [9, 6, 10, 0, 1, 2, 3, 4, 5, 7, 8, 11] (by decide)
                        simp only [pick, List.filterMap_cons, List.filterMap_nil, List.getElem?_cons_zero, List.getElem?_cons_succ, List.cons_append, List.nil_append] at h2188
                        obtain ⟨x_2190, x_2191, x_2192, hr2189, hR⟩ := hR
                        refine Plan.call (vs := [.pointer (some ⟨b472, 0, none⟩), VU .u32 ((script3.getD i_1770 ((0 : Int), 0#32, 0#32, ([] : List (Nat → BitVec 8)))).2.1), VU .u32 ((script3.getD i_1770 ((0 : Int), 0#32, 0#32, ([] : List (Nat → BitVec 8)))).2.2.1)]) rfl FSkipsExact.call82 rfl (letheref15_Table_Take_ok (by exact hm1775) hr2189 h2188) ?_
                        rintro _ w2198 ⟨aqtList2_2193, pqtList2_2194, nqtList2_2195, cqtList2_2196, FqtList2_2197, rfl, h2198, hf2198_0⟩
                        try dsimp only at hf2198_0
                        obtain rfl := hf2198_0.hl
                        refine ⟨_, rfl, .inr ⟨rfl, ?_⟩⟩
                        refine Plan.move_tuple rfl rfl ?_
                        refine Plan.extract_agg rfl rfl rfl ?_
                        refine Plan.extract_int rfl rfl rfl ?_
                        refine Plan.nil ⟨_, [_, _, _, _, _, _, _, _, _, _, _, _], h2198, PIn.nil, ?_⟩
                        refine PX.done (KE.step fun b2199_12 => (KE.fin fun w2199 h2199 => ?_))
                        simp only [rngs, Nat.zero_add, Nat.reduceAdd, List.cons_append, List.nil_append] at h2199
                        refine Plan.storeA (f' := fun q => VU .u8 (x_2190 q)) h2199 12 rfl rfl rfl rfl (fun _ _ => rfl) FSkipsExact.sz71 rfl fun w2200 h2200 => ?_
                        simp only [List.cons_append, List.nil_append, List.set_cons_zero, List.set_cons_succ] at h2200
                        refine Plan.assign_int rfl rfl ?_
                        refine Plan.nil ?_
                        refine hK2185 _ _ ?_; clear hK2185
                        refine W.seq_k fun K2201 hK2201 => ?_
                        refine W.regionT [(0, true), (1, true), (2, true), (3, true), (4, true), (5, true), (6, true), (7, true), (8, true)] (by kernel_rfl) ?_
                        refine Plan.loadA1 h2200 11 rfl rfl rfl FSkipsExact.agg71 ?_
                        refine Plan.loadA1 h2200 12 rfl rfl rfl FSkipsExact.agg71 ?_
                        by_cases hc2202 : (eqB 32 x_2179 x_2190) = true
                        ·
                          replace hR := ifT hR hc2202
                          refine Plan.eqArrV (b := true) FSkipsExact.arrI71 rfl rfl rfl hc2202 ?_
                          refine Plan.move_bool rfl rfl ?_
                          refine Plan.move_int rfl rfl ?_
                          refine Plan.move_int rfl rfl ?_
                          refine Plan.cmpP (a := (((x_2180 : Nat) : Int) : Int)) (b := (((x_2191 : Nat) : Int) : Int)) (p := x_2180 = x_2191) rfl rfl rfl rfl icmp_eqN ?_
                          refine Plan.pickTb rfl rfl rfl ?_
                          refine Plan.assign_bool rfl rfl ?_
                          refine Plan.nil ?_
                          refine hK2201 _ _ ?_; clear hK2201
                          refine W.ret (blockR_ret (thenR_ret (finR_ret ?_)))
                          have h2203 := St.pickT (C := [_, _, _, _, _, _, _, _, _, _, _, _, _]) h2200 [3, 4, 1, 0, 2, 9, 10] (by decide)
                          simp only [pick, List.filterMap_cons, List.filterMap_nil, List.getElem?_cons_zero, List.getElem?_cons_succ, List.cons_append, List.nil_append] at h2203
                          refine RetOk.mk (.tmp_bool rfl .nil) ?_
                          exact ⟨(decide (x_2180 = x_2191)), m1772, x_2181, x_2192, hR, b1771, m1773, x_2192.length, aqtList2_2193, pqtList2_2194, cqtList2_2196, FqtList2_2197, rfl, h2203, hf2198_0⟩
                        ·
                          replace hR := ifF hR hc2202
                          refine Plan.eqArrV (b := false) FSkipsExact.arrI71 rfl rfl rfl (Bool.eq_false_iff.2 hc2202) ?_
                          refine Plan.move_bool rfl rfl ?_
                          refine Plan.passed rfl ?_
                          refine Plan.passed rfl ?_
                          refine Plan.passed rfl ?_
                          refine Plan.pickFb rfl rfl rfl ?_
                          refine Plan.assign_bool rfl rfl ?_
                          refine Plan.nil ?_
                          refine hK2201 _ _ ?_; clear hK2201
                          refine W.ret (blockR_ret (thenR_ret (finR_ret ?_)))
                          have h2204 := St.pickT (C := [_, _, _, _, _, _, _, _, _, _, _, _, _]) h2200 [3, 4, 1, 0, 2, 9, 10] (by decide)
                          simp only [pick, List.filterMap_cons, List.filterMap_nil, List.getElem?_cons_zero, List.getElem?_cons_succ, List.cons_append, List.nil_append] at h2204
                          refine RetOk.mk (.tmp_bool rfl .nil) ?_
                          exact ⟨false, m1772, x_2181, x_2192, hR, b1771, m1773, x_2192.length, aqtList2_2193, pqtList2_2194, cqtList2_2196, FqtList2_2197, rfl, h2204, hf2198_0⟩
                      ·
                        replace hR := ifF hR hc2173
                        refine W.condF (congrArg Value.bool (decide_eq_false hc2173)) ?_
                        refine W.seq_k fun K2205 hK2205 => ?_
                        refine W.regionT [(0, true), (1, true)] (by kernel_rfl) ?_
                        refine Plan.cmpP (a := ((script3.getD i_1770 ((0 : Int), 0#32, 0#32, ([] : List (Nat → BitVec 8)))).1 : Int)) (b := (4 : Int)) (p := (script3.getD i_1770 ((0 : Int), 0#32, 0#32, ([] : List (Nat → BitVec 8)))).1 = 4) rfl rfl rfl rfl icmp_eq ?_
                        refine Plan.assign_bool rfl rfl ?_
                        refine Plan.nil ?_
                        refine hK2205 _ _ ?_; clear hK2205
                        by_cases hc2206 : (script3.getD i_1770 ((0 : Int), 0#32, 0#32, ([] : List (Nat → BitVec 8)))).1 = 4
                        ·
                          replace hR := ifT hR hc2206
                          refine W.condT (congrArg Value.bool (decide_eq_true hc2206)) ?_
                          refine W.seq_k fun K2207 hK2207 => ?_
                          refine W.regionD FSkipsExact.mixed [(0, true), (1, true), (2, true), (3, true), (5, true), (6, true), (7, true), (8, true), (9, true), (10, true), (11, true), (12, true), (4, false), (13, true), (14, true), (15, true), (16, true), (17, true), (18, true), (20, true), (21, true), (22, true), (23, true), (24, true), (25, true), (26, true), (19, false), (27, false), (28, true), (29, true)] (by kernel_rfl) ?_
                          have h2208 := h2030.drew
                          refine Plan.move_ptr rfl rfl ?_
                          refine Plan.nilCheck rfl rfl ?_
                          refine Plan.fieldAddr0 FSkipsExact.fld110_0 rfl rfl ?_
                          refine Plan.load0 h2208 7 rfl rfl rfl (by omega) FSkipsExact.sc67 ?_
                          refine Plan.move_ptr rfl rfl ?_
                          refine Plan.nilCheck rfl rfl ?_
                          refine Plan.fieldAddr 1 FSkipsExact.fld110_1 rfl rfl ?_
                          refine Plan.load0 h2208 8 rfl rfl rfl (by omega) FSkipsExact.sc103 ?_
                          refine Plan.nilCheck rfl rfl ?_
                          refine Plan.fieldAddr0 FSkipsExact.fld152_0 rfl rfl ?_
                          refine Plan.load0 h2208 9 rfl rfl rfl (by omega) FSkipsExact.sc78 ?_
                          refine Plan.len FSkipsExact.isl78 rfl rfl ?_
                          have h2209 := St.pickT (C := [_, _, _, _, _, _, _, _, _, _, _]) h2208 [4, 5, 0, 1, 2, 3, 6, 7, 8, 9, 10] (by decide)
                          simp only [pick, List.filterMap_cons, List.filterMap_nil, List.getElem?_cons_zero, List.getElem?_cons_succ, List.cons_append, List.nil_append] at h2209
                          obtain ⟨x_2211, hr2210, hR⟩ := hR
                          refine Plan.callMix (vs := [.pointer (some ⟨b1771, 0, none⟩)]) rfl FSkipsExact.call37 rfl (skips_Table_Len_ok (w0 := w0) hr2210 (show St B (w0.on [mapR kv2 D71 [] m1773 mp1774]) _ _ from h2209)) ?_
                          rintro _ w2212 ⟨rfl, h2212⟩
                          replace h2212 : St B (w0.on [mapR kv2 D71 [] m1773 mp1774]) _ _ := h2212
                          refine ⟨_, rfl, _, _, _, _, h2212, (by exact (EffO.mix _ (Filt.keep rfl (Filt.keep rfl (Filt.drop rfl Filt.nil))) (PIn.cons 9 rfl (PIn.cons 8 rfl PIn.nil)))), ?_⟩
                          by_cases hc2213 : x_2211 = m1775.length
                          ·
                            replace hR := ifT hR hc2213
                            refine Plan.cmpV (a := (((x_2211 : Nat) : Int) : Int)) (b := (((m1775.length : Nat) : Int) : Int)) (p := x_2211 = m1775.length) (v := true) rfl rfl rfl rfl icmp_eqN (decide_eq_true hc2213) ?_
                            refine Plan.move_bool rfl rfl ?_
                            refine Plan.move_ptr rfl rfl ?_
                            refine Plan.nilCheck rfl rfl ?_
                            refine Plan.fieldAddr0 FSkipsExact.fld110_0 rfl rfl ?_
                            refine Plan.load0 h2212 7 rfl rfl rfl (by omega) FSkipsExact.sc67 ?_
                            refine Plan.move_ptr rfl rfl ?_
                            refine Plan.nilCheck rfl rfl ?_
                            refine Plan.fieldAddr 1 FSkipsExact.fld110_1 rfl rfl ?_
                            refine Plan.load0 h2212 8 rfl rfl rfl (by omega) FSkipsExact.sc103 ?_
                            refine Plan.nilCheck rfl rfl ?_
                            refine Plan.fieldAddr0 FSkipsExact.fld152_0 rfl rfl ?_
                            refine Plan.load0 h2212 9 rfl rfl rfl (by omega) FSkipsExact.sc78 ?_
                            obtain ⟨x_2215, hr2214, hR⟩ := hR
                            refine Plan.callMix (vs := [.pointer (some ⟨b1771, 0, none⟩)]) rfl FSkipsExact.call40 rfl (skips_Table_List_ok (w0 := w0) hr2214 (show St B (w0.on [mapR kv2 D71 [] m1773 mp1774]) _ _ from h2212)) ?_
                            rintro _ w2221 ⟨ay0_2216, py0_2217, ny0_2218, cy0_2219, Fy0_2220, rfl, h2221, hf2221_0⟩
                            replace h2221 : St B (w0.on [mapR kv2 D71 [] m1773 mp1774]) _ _ := h2221
                            obtain rfl := hf2221_0.hl
                            refine ⟨_, rfl, _, _, _, _, h2221, (by exact (EffO.mix _ (Filt.keep rfl (Filt.keep rfl (Filt.drop rfl (Filt.keep rfl (Filt.keep rfl Filt.nil))))) (PIn.cons 10 rfl (PIn.cons 9 rfl (PIn.cons 10 rfl (PIn.cons 9 rfl PIn.nil)))))), ?_⟩
                            obtain ⟨x_2223, hr2222, hR⟩ := hR
                            refine Plan.callMix (vs := [.slice ay0_2216 x_2215.length cy0_2219, .slice am1775 m1775.length cm1775]) rfl FSkipsExact.call50 rfl (lethelaw15_sameList_ok (by exact (LO.lvf D81_flat hf2221_0 0 rfl)) (by exact (LO.lvf D81_flat hm1775 7 rfl)) hr2222 h2221) ?_
                            rintro _ w2224 ⟨rfl, h2224⟩
                            refine ⟨_, rfl, _, _, _, _, h2224, (by exact (EffO.mix _ (Filt.drop rfl (Filt.keep rfl (Filt.keep rfl (Filt.keep rfl Filt.nil)))) (PIn.cons 9 rfl (PIn.cons 10 rfl (PIn.cons 9 rfl PIn.nil))))), ?_⟩
                            refine Plan.pickTb rfl rfl rfl ?_
                            refine Plan.assign_bool rfl rfl ?_
                            refine Plan.nil ?_
                            refine hK2207 _ _ ?_; clear hK2207
                            refine W.ret (blockR_ret (thenR_ret (finR_ret ?_)))
                            have h2225 := St.pickT (C := [_, _, _, _, _, _, _, _, _, _, _, _]) h2224 [1, 2, 7, 10, 11, 8, 9] (by decide)
                            simp only [pick, List.filterMap_cons, List.filterMap_nil, List.getElem?_cons_zero, List.getElem?_cons_succ, List.cons_append, List.nil_append] at h2225
                            refine RetOk.mk (.tmp_bool rfl .nil) ?_
                            exact ⟨x_2223, m1772, mp1774, m1775, hR, b1771, m1773, m1775.length, am1775, pm1775, cm1775, Fm1775, rfl, h2225, hm1775⟩
                          ·
                            replace hR := ifF hR hc2213
                            refine Plan.cmpV (a := (((x_2211 : Nat) : Int) : Int)) (b := (((m1775.length : Nat) : Int) : Int)) (p := x_2211 = m1775.length) (v := false) rfl rfl rfl rfl icmp_eqN (decide_eq_false hc2213) ?_
                            refine Plan.move_bool rfl rfl ?_
                            refine Plan.passed rfl ?_
                            refine Plan.passed rfl ?_
                            refine Plan.passed rfl ?_
                            refine Plan.passed rfl ?_
                            refine Plan.passed rfl ?_
                            refine Plan.passed rfl ?_
                            refine Plan.passed rfl ?_
                            refine Plan.passed rfl ?_
                            refine Plan.passed rfl ?_
                            refine Plan.passed rfl ?_
                            refine Plan.passed rfl ?_
                            refine Plan.passed rfl ?_
                            refine Plan.passed rfl ?_
                            refine Plan.pickFb rfl rfl rfl ?_
                            refine Plan.assign_bool rfl rfl ?_
                            refine Plan.nil ?_
                            refine hK2207 _ _ ?_; clear hK2207
                            refine W.ret (blockR_ret (thenR_ret (finR_ret ?_)))
                            have h2226 := St.pickT (C := [_, _, _, _, _, _, _, _, _, _, _]) h2212 [0, 1, 6, 9, 10, 7, 8] (by decide)
                            simp only [pick, List.filterMap_cons, List.filterMap_nil, List.getElem?_cons_zero, List.getElem?_cons_succ, List.cons_append, List.nil_append] at h2226
                            refine RetOk.mk (.tmp_bool rfl .nil) ?_
                            exact ⟨false, m1772, mp1774, m1775, hR, b1771, m1773, m1775.length, am1775, pm1775, cm1775, Fm1775, rfl, h2226, hm1775⟩
                        ·
                          replace hR := ifF hR hc2206
                          refine W.condF (congrArg Value.bool (decide_eq_false hc2206)) ?_
                          refine W.seq_k fun K2227 hK2227 => ?_
                          refine W.regionT [(0, true), (1, true)] (by kernel_rfl) ?_
                          refine Plan.cmpP (a := ((script3.getD i_1770 ((0 : Int), 0#32, 0#32, ([] : List (Nat → BitVec 8)))).1 : Int)) (b := (5 : Int)) (p := (script3.getD i_1770 ((0 : Int), 0#32, 0#32, ([] : List (Nat → BitVec 8)))).1 = 5) rfl rfl rfl rfl icmp_eq ?_
                          refine Plan.assign_bool rfl rfl ?_
                          refine Plan.nil ?_
                          refine hK2227 _ _ ?_; clear hK2227
                          by_cases hc2228 : (script3.getD i_1770 ((0 : Int), 0#32, 0#32, ([] : List (Nat → BitVec 8)))).1 = 5
                          ·
                            replace hR := ifT hR hc2228
                            refine W.condT (congrArg Value.bool (decide_eq_true hc2228)) ?_
                            refine W.seq_k fun K2229 hK2229 => ?_
                            refine W.regionT [(0, true), (1, true), (2, true), (3, true), (4, false), (5, true)] (by kernel_rfl) ?_
                            refine Plan.move_ptr rfl rfl ?_
                            refine Plan.nilCheck rfl rfl ?_
                            refine Plan.fieldAddr0 FSkipsExact.fld110_0 rfl rfl ?_
                            refine Plan.load0 h2030 7 rfl rfl rfl (by omega) FSkipsExact.sc67 ?_
                            have h2230 := St.pickT (C := [_, _, _, _, _, _, _, _, _, _, _]) h2030 [4, 5, 0, 1, 2, 3, 6, 7, 8, 9, 10] (by decide)
                            simp only [pick, List.filterMap_cons, List.filterMap_nil, List.getElem?_cons_zero, List.getElem?_cons_succ, List.cons_append, List.nil_append] at h2230
                            obtain ⟨x_2232, x_2233, hr2231, hR⟩ := hR
                            refine Plan.call (vs := [.pointer (some ⟨b1771, 0, none⟩)]) rfl FSkipsExact.call49 rfl (skips_Table_Copy_ok (w0 := w0) hr2231 (show St B (w0.on [mapR kv2 D71 [] m1773 mp1774]) _ _ from h2230)) ?_
                            rintro _ w2236 ⟨b0_2234, mw0_1_2235, rfl, h2236⟩
                            replace h2236 : St B (w0.on [mapR kv2 D71 [] mw0_1_2235 x_2233, mapR kv2 D71 [] m1773 mp1774]) _ _ := h2236
                            refine ⟨_, rfl, .inr ⟨rfl, ?_⟩⟩
                            refine Plan.assign_ptr rfl rfl ?_
                            refine Plan.nil ?_
                            refine hK2229 _ _ ?_; clear hK2229
                            refine W.seq_k fun K2237 hK2237 => ?_
                            refine W.seq_k fun K2238 hK2238 => ?_
                            refine W.regionT [(0, true), (1, true)] (by kernel_rfl) ?_
                            refine Plan.move_ptr rfl rfl ?_
                            refine Plan.eqNil (b := false) FSkipsExact.ptr67 rfl rfl rfl rfl ?_
                            refine Plan.nil ?_
                            refine hK2238 _ _ ?_; clear hK2238
                            refine W.condF rfl ?_
                            refine W.skip ?_
                            refine hK2237 _ _ ?_; clear hK2237
                            refine W.seq_k fun K2239 hK2239 => ?_
                            refine W.regionD FSkipsExact.mixed [(0, true), (1, true), (2, true), (3, true), (4, true), (5, true), (6, true), (7, true), (8, false)] (by kernel_rfl) ?_
                            have h2240 := h2236.drew
                            refine Plan.move_ptr rfl rfl ?_
                            refine Plan.nilCheck rfl rfl ?_
                            refine Plan.fieldAddr0 FSkipsExact.fld110_0 rfl rfl ?_
                            refine Plan.load0 h2240 9 rfl rfl rfl (by omega) FSkipsExact.sc67 ?_
                            refine Plan.fieldAddr 1 FSkipsExact.fld113_1 rfl rfl ?_
                            refine Plan.load0 h2240 5 rfl rfl rfl (by omega) FSkipsExact.sc73 ?_
                            refine Plan.fieldAddr 2 FSkipsExact.fld113_2 rfl rfl ?_
                            refine Plan.load0 h2240 6 rfl rfl rfl (by omega) FSkipsExact.sc73 ?_
                            have h2241 := St.pickT (C := [_, _, _, _, _, _, _, _, _, _, _, _, _]) h2240 [2, 3, 0, 1, 4, 5, 6, 7, 8, 9, 10, 11, 12] (by decide)
                            simp only [pick, List.filterMap_cons, List.filterMap_nil, List.getElem?_cons_zero, List.getElem?_cons_succ, List.cons_append, List.nil_append] at h2241
                            have h2242 : St B (w0.on [mapR kv2 D71 [] m1773 mp1774, mapR kv2 D71 [] mw0_1_2235 x_2233]) _ _ := St.mpick (N := [mapR kv2 D71 [] mw0_1_2235 x_2233, mapR kv2 D71 [] m1773 mp1774]) (N' := [mapR kv2 D71 [] m1773 mp1774, mapR kv2 D71 [] mw0_1_2235 x_2233]) h2241 [1, 0] (by decide) rfl
                            obtain ⟨x_2244, x_2245, x_2246, hr2243, hR⟩ := hR
                            refine Plan.call (vs := [.pointer (some ⟨b1771, 0, none⟩), VU .u32 ((script3.getD i_1770 ((0 : Int), 0#32, 0#32, ([] : List (Nat → BitVec 8)))).2.1), VU .u32 ((script3.getD i_1770 ((0 : Int), 0#32, 0#32, ([] : List (Nat → BitVec 8)))).2.2.1)]) rfl FSkipsExact.call39 rfl (skips_Table_Take_ok (w0 := (w0.on [mapR kv2 D71 [] mw0_1_2235 x_2233])) hr2243 (show St B ((w0.on [mapR kv2 D71 [] mw0_1_2235 x_2233]).on [mapR kv2 D71 [] m1773 mp1774]) _ _ from h2242)) ?_
                            rintro _ w2247 ⟨rfl, h2247⟩
                            replace h2247 : St B (w0.on [mapR kv2 D71 [] m1773 x_2246, mapR kv2 D71 [] mw0_1_2235 x_2233]) _ _ := h2247
                            refine ⟨_, rfl, .inr ⟨rfl, ?_⟩⟩
                            refine Plan.nil ?_
                            refine hK2239 _ _ ?_; clear hK2239
                            refine W.seq_k fun K2248 hK2248 => ?_
                            refine W.regionD FSkipsExact.mixed [(0, true), (1, true), (2, true), (3, true), (4, true), (5, true), (6, true), (7, true), (8, true), (9, false), (10, false)] (by kernel_rfl) ?_
                            have h2249 := h2247.drew
                            refine Plan.move_ptr rfl rfl ?_
                            refine Plan.nilCheck rfl rfl ?_
                            refine Plan.fieldAddr0 FSkipsExact.fld110_0 rfl rfl ?_
                            refine Plan.load0 h2249 9 rfl rfl rfl (by omega) FSkipsExact.sc67 ?_
                            refine Plan.fieldAddr 1 FSkipsExact.fld113_1 rfl rfl ?_
                            refine Plan.load0 h2249 5 rfl rfl rfl (by omega) FSkipsExact.sc73 ?_
                            refine Plan.fieldAddr 2 FSkipsExact.fld113_2 rfl rfl ?_
                            refine Plan.load0 h2249 6 rfl rfl rfl (by omega) FSkipsExact.sc73 ?_
                            refine Plan.buildArr (ps := [(32, fun q => VU .u8 ((upd (fun _ => 0#8) 0 (1#8)) q))]) FSkipsExact.arr71 FSkipsExact.z71 rfl rfl (by kernel_rfl) ?_
                            refine Plan.buildLO (D := D71) (sz := 32) h2249 [((), (upd (fun _ => 0#8) 0 (1#8)))] FSkipsExact.slu66 FSkipsExact.sz71 FSkipsExact.zv71 (by decide) (by decide) rfl rfl rfl rfl (fun _ _ => trivial) (EffO.keep (PIn.cons 6 rfl (PIn.cons 5 rfl (PIn.cons 9 rfl PIn.nil)))) fun b2251 w2251 F2251 hb2251 ho2251 h2251 => ?_
                            replace ho2251 : LO D71 [] (some ⟨b2251, 0, none⟩) (some b2251) ([(upd (fun _ => 0#8) 0 (1#8))] : List (Nat → BitVec 8)).length 1 F2251 ([(upd (fun _ => 0#8) 0 (1#8))] : List (Nat → BitVec 8)) := ho2251.re (fun _ _ h => h)
                            have h2252 := St.pickT (C := [_, _, _, _, _, _, _, _, _, _, _, _, _, _]) h2251 [1, 2, 0, 3, 4, 5, 6, 7, 8, 9, 10, 11, 12, 13] (by decide)
                            simp only [pick, List.filterMap_cons, List.filterMap_nil, List.getElem?_cons_zero, List.getElem?_cons_succ, List.cons_append, List.nil_append] at h2252
                            obtain ⟨x_2254, x_2255, hr2253, hR⟩ := hR
                            refine Plan.call (vs := [.pointer (some ⟨b1771, 0, none⟩), VU .u32 ((script3.getD i_1770 ((0 : Int), 0#32, 0#32, ([] : List (Nat → BitVec 8)))).2.1), VU .u32 ((script3.getD i_1770 ((0 : Int), 0#32, 0#32, ([] : List (Nat → BitVec 8)))).2.2.1), .slice (some ⟨b2251, 0, none⟩) (([(upd (fun _ => 0#8) 0 (1#8))] : List (Nat → BitVec 8)).length) 1]) rfl FSkipsExact.call36 rfl (skips_Table_Add_ok (w0 := (w0.on [mapR kv2 D71 [] mw0_1_2235 x_2233])) (by exact (LO.lvf D71_flat ho2251 0 rfl)) hr2253 (show St B ((w0.on [mapR kv2 D71 [] mw0_1_2235 x_2233]).on [mapR kv2 D71 [] m1773 x_2246]) _ _ from h2252)) ?_
                            rintro _ w2256 ⟨rfl, h2256⟩
                            replace h2256 : St B (w0.on [mapR kv2 D71 [] m1773 x_2255, mapR kv2 D71 [] mw0_1_2235 x_2233]) _ _ := h2256
                            refine ⟨_, rfl, .inr ⟨rfl, ?_⟩⟩
                            refine Plan.nil ?_
                            refine hK2248 _ _ ?_; clear hK2248
                            refine W.regionT [(0, true), (1, true), (2, true), (3, true), (4, false)] (by kernel_rfl) ?_
                            refine Plan.move_ptr rfl rfl ?_
                            refine Plan.move_ptr rfl rfl ?_
                            refine Plan.nilCheck rfl rfl ?_
                            refine Plan.fieldAddr0 FSkipsExact.fld110_0 rfl rfl ?_
                            refine Plan.storeC h2256 10 rfl rfl rfl rfl rfl FSkipsExact.sz67 rfl fun w2257 h2257 => ?_
                            simp only [List.cons_append, List.nil_append, List.set_cons_zero, List.set_cons_succ] at h2257
                            refine Plan.nil ?_
                            refine blockR_norm ?_
                            refine hK2031 _ _ ?_; clear hK2031
                            refine W.seq_k fun K2258 hK2258 => ?_
                            refine W.regionT [(0, true)] (by kernel_rfl) ?_
                            refine Plan.assign_bool rfl rfl ?_
                            refine Plan.nil ?_
                            refine hK2258 _ _ ?_; clear hK2258
                            refine W.ret (finR_ret ?_)
                            have h2259 := St.pickT (C := [_, _, _, _, _, _, _, _, _, _, _, _, _, _]) h2257 [3, 4, 9, 12, 13, 10, 11] (by decide)
                            simp only [pick, List.filterMap_cons, List.filterMap_nil, List.getElem?_cons_zero, List.getElem?_cons_succ, List.cons_append, List.nil_append] at h2259
                            have h2260 : St B (w0.on [mapR kv2 D71 [] mw0_1_2235 x_2233]) _ _ := St.mpick (N := [mapR kv2 D71 [] m1773 x_2255, mapR kv2 D71 [] mw0_1_2235 x_2233]) (N' := [mapR kv2 D71 [] mw0_1_2235 x_2233]) h2259 [1] (by decide) rfl
                            refine RetOk.mk (.tmp_bool rfl .nil) ?_
                            exact ⟨true, x_2232, x_2233, m1775, hR, b0_2234, mw0_1_2235, m1775.length, am1775, pm1775, cm1775, Fm1775, rfl, h2260, hm1775⟩
                          ·
                            replace hR := ifF hR hc2228
                            refine W.condF (congrArg Value.bool (decide_eq_false hc2228)) ?_
                            refine W.skip ?_
                            refine blockR_norm ?_
                            refine hK2031 _ _ ?_; clear hK2031
                            refine W.seq_k fun K2261 hK2261 => ?_
                            refine W.regionT [(0, true)] (by kernel_rfl) ?_
                            refine Plan.assign_bool rfl rfl ?_
                            refine Plan.nil ?_
                            refine hK2261 _ _ ?_; clear hK2261
                            refine W.ret (finR_ret ?_)
                            have h2262 := St.pickT (C := [_, _, _, _, _, _, _, _, _, _, _]) h2030 [4, 5, 6, 9, 10, 7, 8] (by decide)
                            simp only [pick, List.filterMap_cons, List.filterMap_nil, List.getElem?_cons_zero, List.getElem?_cons_succ, List.cons_append, List.nil_append] at h2262
                            refine RetOk.mk (.tmp_bool rfl .nil) ?_
                            exact ⟨true, m1772, mp1774, m1775, hR, b1771, m1773, m1775.length, am1775, pm1775, cm1775, Fm1775, rfl, h2262, hm1775⟩
                ·
                  rintro _ w2263 ⟨y_most2023, y_m2025, y_mp2027, y_m2028, ⟨hy2263_0, hy2263_1, hy2263_2, hy2263_3⟩, b2024, m2026, n_m2028, am2028, pm2028, cm2028, Fm2028, rfl, h2263, hm2028⟩
                  subst hy2263_0
                  subst hy2263_1
                  subst hy2263_2
                  subst hy2263_3
                  obtain rfl : List.length (α := ((BitVec 32) × (BitVec 32) × (Nat → BitVec 8))) m2028 = n_m2028 := hm2028.hl
                  replace hR := hR02015
                  refine ⟨_, rfl, .inr ⟨rfl, ?_⟩⟩
                  refine Plan.not rfl rfl ?_
                  refine Plan.nil ?_
                  refine hK1792 _ _ ?_; clear hK1792
                  by_cases hc2264 : most2023 = true
                  ·
                    replace hR := ifT hR hc2264
                    refine W.condF (congrArg Value.bool (congrArg Bool.not hc2264)) ?_
                    refine W.skip ?_
                    refine blockR_norm ?_
                    refine hK1791 _ _ ?_; clear hK1791
                    refine W.regionT [(0, true), (1, true), (2, true)] (by kernel_rfl) ?_
                    refine Plan.move_int rfl rfl ?_
                    refine Plan.addN (a := i_1770) (b := 1) rfl rfl rfl (by omega) ?_
                    refine Plan.assign_int rfl rfl ?_
                    refine Plan.nil ?_
                    have h2265 := St.pickT (C := [_, _, _, _, _, _, _]) h2263 [0, 1, 2, 5, 6, 3, 4] (by decide)
                    simp only [pick, List.filterMap_cons, List.filterMap_nil, List.getElem?_cons_zero, List.getElem?_cons_succ, List.cons_append, List.nil_append] at h2265
                    exact iterR_norm ⟨_, hR, b2024, m2026, m2028.length, am2028, pm2028, cm2028, Fm2028, (EnvHas.cons rfl (EnvHas.cons rfl (EnvHas.cons rfl EnvHas.nil))), h2265, hm2028⟩
                  ·
                    replace hR := ifF hR hc2264
                    refine W.condT (congrArg Value.bool (congrArg Bool.not (Bool.eq_false_iff.2 hc2264))) ?_
                    refine W.seq_k fun K2266 hK2266 => ?_
                    refine W.regionT [(0, true)] (by kernel_rfl) ?_
                    refine Plan.assign_bool rfl rfl ?_
                    refine Plan.nil ?_
                    refine hK2266 _ _ ?_; clear hK2266
                    refine W.ret (blockR_ret (thenR_ret (iterR_ret (blockR_ret (thenR_ret (thenR_ret (finR_ret ?_)))))))
                    have h2267 := St.pickT (C := [_, _, _, _, _, _, _]) h2263 [] (by decide)
                    simp only [pick, List.filterMap_cons, List.filterMap_nil, List.getElem?_cons_zero, List.getElem?_cons_succ, List.cons_append, List.nil_append] at h2267
                    have h2268 : St B w0 _ _ := St.mpick (N := [mapR kv2 D71 [] m2026 mp2027]) (N' := []) h2267 [] (by decide) rfl
                    replace hR := hR.2
                    subst r
                    refine RetOk.mk (.tmp_bool rfl .nil) ?_
                    exact ⟨rfl, h2268⟩
              ·
                replace hR := ifF hR hc1790
                refine W.condF (congrArg Value.bool (decide_eq_false hc1790)) ?_
                refine W.exit (thenR_exit (iterR_exit (blockR_here ?_)))
                exact ⟨m1772, mp1774, m1775, (hx1781 _ hR).symm, b1771, m1773, m1775.length, am1775, pm1775, cm1775, Fm1775, (EnvHas.cons rfl EnvHas.nil), h1783, hm1775⟩
            ·
              replace hR := ifF hR hc1789
              refine Plan.cmpV (a := (((i_1770 : Nat) : Int) : Int)) (b := (((script3.length : Nat) : Int) : Int)) (p := i_1770 < script3.length) (v := false) rfl rfl rfl rfl icmp_ltN (decide_eq_false hc1789) ?_
              refine Plan.move_bool rfl rfl ?_
              refine Plan.passed rfl ?_
              refine Plan.passed rfl ?_
              refine Plan.pickFb rfl rfl rfl ?_
              refine Plan.nil ?_
              refine hK1788 _ _ ?_; clear hK1788
              refine W.condF rfl ?_
              refine W.exit (thenR_exit (iterR_exit (blockR_here ?_)))
              exact ⟨m1772, mp1774, m1775, (hx1781 _ hR).symm, b1771, m1773, m1775.length, am1775, pm1775, cm1775, Fm1775, (EnvHas.cons rfl EnvHas.nil), h1783, hm1775⟩
          ·
            rintro ev2269 wl2269 ⟨y_m1777, y_mp1779, y_m1780, hy2269, b1776, m1778, n_m1780, am1780, pm1780, cm1780, Fm1780, he2269, h2269, hm1780⟩
            obtain ⟨ev2269, rfl⟩ := he2269.open
            replace hR := hR01781 y_m1777 y_mp1779 y_m1780 hy2269
            obtain ⟨m1777, e_m1777⟩ : ∃ z, z = y_m1777 := ⟨_, rfl⟩; subst e_m1777
            obtain ⟨mp1779, e_mp1779⟩ : ∃ z, z = y_mp1779 := ⟨_, rfl⟩; subst e_mp1779
            obtain ⟨m1780, e_m1780⟩ : ∃ z, z = y_m1780 := ⟨_, rfl⟩; subst e_m1780
            obtain rfl : List.length (α := ((BitVec 32) × (BitVec 32) × (Nat → BitVec 8))) m1780 = n_m1780 := hm1780.hl
            refine hK800 _ _ ?_; clear hK800
            refine W.seq_k fun K2270 hK2270 => ?_
            refine W.regionT [(0, true), (1, true), (2, false), (3, true)] (by kernel_rfl) ?_
            refine Plan.move_ptr rfl rfl ?_
            refine Plan.buildP (ps := [(1, fun _ => VN 4), (1, fun _ => VU .u32 (0#32)), (1, fun _ => VU .u32 (0#32)), (1, fun _ => .slice none 0 0)]) FSkipsExact.pl113 (by decide) FSkipsExact.z113 rfl rfl (.one [] [(1, fun _ => VU .u32 (0#32)), (1, fun _ => VU .u32 (0#32)), (1, fun _ => .slice none 0 0)] (fun _ => VN 0) rfl rfl .nil) ?_
            obtain ⟨most2298, hX2297, hR02297⟩ := hR
            refine Plan.call (vs := [.pointer (some ⟨b799, 0, none⟩), AG [(1, fun _ => VN 4), (1, fun _ => VU .u32 (0#32)), (1, fun _ => VU .u32 (0#32)), (1, fun _ => .slice none 0 0)]]) (R := fun e w => ∃ y_most2298 : Bool, (most2298 = y_most2298) ∧ e = .returned (.bool y_most2298) ∧ St B (w0.on [mapR kv2 D71 [] m1778 mp1779]) (L) w) rfl FSkipsExact.call54 rfl ?_ ?_
            ·
              replace hR := hX2297
              refine W.enter 226 Try.func54 rfl rfl rfl ?_
              refine W.seq_k fun K2299 hK2299 => ?_
              refine W.regionT [(0, false), (1, true)] (by kernel_rfl) ?_
              refine Plan.boxA h2269 rfl rfl PIn.nil fun b2300 w2300 hb2300 h2300 => ?_
              simp only [rngs, Nat.zero_add, Nat.reduceAdd, List.cons_append, List.nil_append] at h2300
              refine Plan.assign_bool rfl rfl ?_
              refine Plan.nil ?_
              refine hK2299 _ _ ?_; clear hK2299
              refine W.seq_k fun K2301 hK2301 => ?_
              refine W.seq_k fun K2302 hK2302 => ?_
              refine W.regionT [(0, true), (1, true)] (by kernel_rfl) ?_
              refine Plan.fieldAddr0 FSkipsExact.fld113_0 rfl rfl ?_
              refine Plan.load0 h2300 0 rfl rfl rfl (by omega) FSkipsExact.sc3 ?_
              refine Plan.nil ?_
              refine hK2302 _ _ ?_; clear hK2302
              refine W.block ?_
              refine W.seq_k fun K2303 hK2303 => ?_
              refine W.regionT [(0, true), (1, true)] (by kernel_rfl) ?_
              refine Plan.cmpP (a := (4 : Int)) (b := (1 : Int)) (p := (4 : Nat) = 1) rfl rfl rfl rfl icmp_eqN ?_
              refine Plan.assign_bool rfl rfl ?_
              refine Plan.nil ?_
              refine hK2303 _ _ ?_; clear hK2303
              refine W.condF rfl ?_
              refine W.seq_k fun K2304 hK2304 => ?_
              refine W.regionT [(0, true), (1, true)] (by kernel_rfl) ?_
              refine Plan.cmpP (a := (4 : Int)) (b := (2 : Int)) (p := (4 : Nat) = 2) rfl rfl rfl rfl icmp_eqN ?_
              refine Plan.assign_bool rfl rfl ?_
              refine Plan.nil ?_
              refine hK2304 _ _ ?_; clear hK2304
              refine W.condF rfl ?_
              refine W.seq_k fun K2305 hK2305 => ?_
              refine W.regionT [(0, true), (1, true)] (by kernel_rfl) ?_
              refine Plan.cmpP (a := (4 : Int)) (b := (3 : Int)) (p := (4 : Nat) = 3) rfl rfl rfl rfl icmp_eqN ?_
              refine Plan.assign_bool rfl rfl ?_
              refine Plan.nil ?_
              refine hK2305 _ _ ?_; clear hK2305
              refine W.condF rfl ?_
              refine W.seq_k fun K2306 hK2306 => ?_
              refine W.regionT [(0, true), (1, true)] (by kernel_rfl) ?_
              refine Plan.cmpP (a := (4 : Int)) (b := (4 : Int)) (p := (4 : Nat) = 4) rfl rfl rfl rfl icmp_eqN ?_
              refine Plan.assign_bool rfl rfl ?_
              refine Plan.nil ?_
              refine hK2306 _ _ ?_; clear hK2306
              refine W.condT rfl ?_
              refine W.seq_k fun K2307 hK2307 => ?_
              refine W.regionD FSkipsExact.mixed [(0, true), (1, true), (2, true), (3, true), (5, true), (6, true), (7, true), (8, true), (9, true), (10, true), (11, true), (12, true), (4, false), (13, true), (14, true), (15, true), (16, true), (17, true), (18, true), (20, true), (21, true), (22, true), (23, true), (24, true), (25, true), (26, true), (19, false), (27, false), (28, true), (29, true)] (by kernel_rfl) ?_
              have h2308 := h2300.drew
              refine Plan.move_ptr rfl rfl ?_
              refine Plan.nilCheck rfl rfl ?_
              refine Plan.fieldAddr0 FSkipsExact.fld110_0 rfl rfl ?_
              refine Plan.load0 h2308 7 rfl rfl rfl (by omega) FSkipsExact.sc67 ?_
              refine Plan.move_ptr rfl rfl ?_
              refine Plan.nilCheck rfl rfl ?_
              refine Plan.fieldAddr 1 FSkipsExact.fld110_1 rfl rfl ?_
              refine Plan.load0 h2308 8 rfl rfl rfl (by omega) FSkipsExact.sc103 ?_
              refine Plan.nilCheck rfl rfl ?_
              refine Plan.fieldAddr0 FSkipsExact.fld152_0 rfl rfl ?_
              refine Plan.load0 h2308 9 rfl rfl rfl (by omega) FSkipsExact.sc78 ?_
              refine Plan.len FSkipsExact.isl78 rfl rfl ?_
              have h2309 := St.pickT (C := [_, _, _, _, _, _, _, _, _, _, _]) h2308 [4, 5, 0, 1, 2, 3, 6, 7, 8, 9, 10] (by decide)
              simp only [pick, List.filterMap_cons, List.filterMap_nil, List.getElem?_cons_zero, List.getElem?_cons_succ, List.cons_append, List.nil_append] at h2309
              obtain ⟨x_2311, hr2310, hR⟩ := hR
              refine Plan.callMix (vs := [.pointer (some ⟨b1776, 0, none⟩)]) rfl FSkipsExact.call37 rfl (skips_Table_Len_ok (w0 := w0) hr2310 (show St B (w0.on [mapR kv2 D71 [] m1778 mp1779]) _ _ from h2309)) ?_
              rintro _ w2312 ⟨rfl, h2312⟩
              replace h2312 : St B (w0.on [mapR kv2 D71 [] m1778 mp1779]) _ _ := h2312
              refine ⟨_, rfl, _, _, _, _, h2312, (by exact (EffO.mix _ (Filt.keep rfl (Filt.keep rfl (Filt.drop rfl Filt.nil))) (PIn.cons 9 rfl (PIn.cons 8 rfl PIn.nil)))), ?_⟩
              by_cases hc2313 : x_2311 = m1780.length
              ·
                replace hR := ifT hR hc2313
                refine Plan.cmpV (a := (((x_2311 : Nat) : Int) : Int)) (b := (((m1780.length : Nat) : Int) : Int)) (p := x_2311 = m1780.length) (v := true) rfl rfl rfl rfl icmp_eqN (decide_eq_true hc2313) ?_
                refine Plan.move_bool rfl rfl ?_
                refine Plan.move_ptr rfl rfl ?_
                refine Plan.nilCheck rfl rfl ?_
                refine Plan.fieldAddr0 FSkipsExact.fld110_0 rfl rfl ?_
                refine Plan.load0 h2312 7 rfl rfl rfl (by omega) FSkipsExact.sc67 ?_
                refine Plan.move_ptr rfl rfl ?_
                refine Plan.nilCheck rfl rfl ?_
                refine Plan.fieldAddr 1 FSkipsExact.fld110_1 rfl rfl ?_
                refine Plan.load0 h2312 8 rfl rfl rfl (by omega) FSkipsExact.sc103 ?_
                refine Plan.nilCheck rfl rfl ?_
                refine Plan.fieldAddr0 FSkipsExact.fld152_0 rfl rfl ?_
                refine Plan.load0 h2312 9 rfl rfl rfl (by omega) FSkipsExact.sc78 ?_
                obtain ⟨x_2315, hr2314, hR⟩ := hR
                refine Plan.callMix (vs := [.pointer (some ⟨b1776, 0, none⟩)]) rfl FSkipsExact.call40 rfl (skips_Table_List_ok (w0 := w0) hr2314 (show St B (w0.on [mapR kv2 D71 [] m1778 mp1779]) _ _ from h2312)) ?_
                rintro _ w2321 ⟨ay0_2316, py0_2317, ny0_2318, cy0_2319, Fy0_2320, rfl, h2321, hf2321_0⟩
                replace h2321 : St B (w0.on [mapR kv2 D71 [] m1778 mp1779]) _ _ := h2321
                obtain rfl := hf2321_0.hl
                refine ⟨_, rfl, _, _, _, _, h2321, (by exact (EffO.mix _ (Filt.keep rfl (Filt.keep rfl (Filt.drop rfl (Filt.keep rfl (Filt.keep rfl Filt.nil))))) (PIn.cons 10 rfl (PIn.cons 9 rfl (PIn.cons 10 rfl (PIn.cons 9 rfl PIn.nil)))))), ?_⟩
                obtain ⟨x_2323, hr2322, hR⟩ := hR
                refine Plan.callMix (vs := [.slice ay0_2316 x_2315.length cy0_2319, .slice am1780 m1780.length cm1780]) rfl FSkipsExact.call50 rfl (lethelaw15_sameList_ok (by exact (LO.lvf D81_flat hf2321_0 0 rfl)) (by exact (LO.lvf D81_flat hm1780 7 rfl)) hr2322 h2321) ?_
                rintro _ w2324 ⟨rfl, h2324⟩
                refine ⟨_, rfl, _, _, _, _, h2324, (by exact (EffO.mix _ (Filt.drop rfl (Filt.keep rfl (Filt.keep rfl (Filt.keep rfl Filt.nil)))) (PIn.cons 9 rfl (PIn.cons 10 rfl (PIn.cons 9 rfl PIn.nil))))), ?_⟩
                refine Plan.pickTb rfl rfl rfl ?_
                refine Plan.assign_bool rfl rfl ?_
                refine Plan.nil ?_
                refine hK2307 _ _ ?_; clear hK2307
                refine W.ret (blockR_ret (thenR_ret (finR_ret ?_)))
                have h2325 := St.pickT (C := [_, _, _, _, _, _, _, _, _, _, _, _]) h2324 [] (by decide)
                simp only [pick, List.filterMap_cons, List.filterMap_nil, List.getElem?_cons_zero, List.getElem?_cons_succ, List.cons_append, List.nil_append] at h2325
                refine RetOk.mk (.tmp_bool rfl .nil) ?_
                exact ⟨x_2323, hR, rfl, h2325⟩
              ·
                replace hR := ifF hR hc2313
                refine Plan.cmpV (a := (((x_2311 : Nat) : Int) : Int)) (b := (((m1780.length : Nat) : Int) : Int)) (p := x_2311 = m1780.length) (v := false) rfl rfl rfl rfl icmp_eqN (decide_eq_false hc2313) ?_
                refine Plan.move_bool rfl rfl ?_
                refine Plan.passed rfl ?_
                refine Plan.passed rfl ?_
                refine Plan.passed rfl ?_
                refine Plan.passed rfl ?_
                refine Plan.passed rfl ?_
                refine Plan.passed rfl ?_
                refine Plan.passed rfl ?_
                refine Plan.passed rfl ?_
                refine Plan.passed rfl ?_
                refine Plan.passed rfl ?_
                refine Plan.passed rfl ?_
                refine Plan.passed rfl ?_
                refine Plan.passed rfl ?_
                refine Plan.pickFb rfl rfl rfl ?_
                refine Plan.assign_bool rfl rfl ?_
                refine Plan.nil ?_
                refine hK2307 _ _ ?_; clear hK2307
                refine W.ret (blockR_ret (thenR_ret (finR_ret ?_)))
                have h2326 := St.pickT (C := [_, _, _, _, _, _, _, _, _, _, _]) h2312 [] (by decide)
                simp only [pick, List.filterMap_cons, List.filterMap_nil, List.getElem?_cons_zero, List.getElem?_cons_succ, List.cons_append, List.nil_append] at h2326
                refine RetOk.mk (.tmp_bool rfl .nil) ?_
                exact ⟨false, hR, rfl, h2326⟩
            ·
              rintro _ w2327 ⟨y_most2298, hy2327_0, rfl, h2327⟩
              subst hy2327_0
              replace hR := hR02297
              refine ⟨_, rfl, .inl ⟨PIn.keep (by exact PIn.nil) h2327, ?_⟩⟩
              refine Plan.assign_bool rfl rfl ?_
              refine Plan.nil ?_
              refine hK2270 _ _ ?_; clear hK2270
              refine W.ret (finR_ret ?_)
              have h2328 : St B w0 _ _ := St.mpick (N := [mapR kv2 D71 [] m1778 mp1779]) (N' := []) h2327 [] (by decide) rfl
              subst r
              refine RetOk.mk (.tmp_bool rfl .nil) ?_
              exact ⟨rfl, h2328⟩

end Go.Proofs.Ytbkgblhmlenocaa
