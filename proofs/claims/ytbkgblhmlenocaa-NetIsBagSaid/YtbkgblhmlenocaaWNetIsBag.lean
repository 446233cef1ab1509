/-
  WALKS of the package's functions, printed by this session's own program (auto.py).
-/
import Derived.Test.YtbkgblhmlenocaaProg
import Derived.Test.YtbkgblhmlenocaaEd
import Derived.Test.YtbkgblhmlenocaaRNetIsBag
import Derived.Test.YtbkgblhmlenocaaEls
import Derived.Test.YtbkgblhmlenocaaWLaw23
import Derived.Test.YtbkgblhmlenocaaWNet
namespace Go.Proofs.Ytbkgblhmlenocaa
set_option linter.unusedSimpArgs false
set_option linter.unusedVariables false
set_option linter.unusedSectionVars false
open Go Go.LW
theorem FNetIsBag.call29 : callB Try.prog 29 = true := by kernel_rfl
theorem FNetIsBag.ptr51 : ptrB Try.prog 51 = true := by kernel_rfl
theorem FNetIsBag.u5 : Try.prog.underlying 5 = some (.int .u8) := by kernel_rfl
theorem FNetIsBag.zv5 : (Try.prog.info? 5).bind (·.zero) = some (VU .u8 0#8) := by kernel_rfl
theorem FNetIsBag.slu23 : Try.prog.underlying 23 = some (.slice 5) := by kernel_rfl
theorem FNetIsBag.sz5 : szT Try.prog 5 1 = true := by kernel_rfl
theorem FNetIsBag.sc3 : scalarT Try.prog 3 = true := by kernel_rfl
theorem FNetIsBag.mixed : Try.prog.follows .mixedOrders = true := by kernel_rfl
theorem FNetIsBag.el23 : elD Try.prog 23 = some (1, 1, some (VU .u8 0#8)) := by kernel_rfl
theorem FNetIsBag.sl23 : slB Try.prog 23 1 = true := by kernel_rfl
theorem FNetIsBag.pl60 : placesB Try.prog 60 [(0, 1), (1, 1), (2, 1), (3, 1)] = true := by kernel_rfl
theorem FNetIsBag.z60 : zeroIs Try.prog 60 [(1, fun _ => .int .i64 0), (1, fun _ => .int .i64 0), (1, fun _ => .int .i64 0), (1, fun _ => .slice none 0 0)] := zeroIs_agg (by kernel_rfl)
theorem FNetIsBag.sz3 : szT Try.prog 3 1 = true := by kernel_rfl
theorem FNetIsBag.call30 : callB Try.prog 30 = true := by kernel_rfl
theorem FNetIsBag.sz60 : szT Try.prog 60 4 = true := by kernel_rfl
theorem FNetIsBag.fld60_1 : fieldB Try.prog 60 1 1 = true := by kernel_rfl
theorem FNetIsBag.fld60_2 : fieldB Try.prog 60 2 2 = true := by kernel_rfl
theorem FNetIsBag.sc23 : scalarT Try.prog 23 = true := by kernel_rfl
theorem FNetIsBag.call31 : callB Try.prog 31 = true := by kernel_rfl
theorem FNetIsBag.call45 : callB Try.prog 45 = true := by kernel_rfl
theorem FNetIsBag.agg60 : aggT Try.prog 60 4 = true := by kernel_rfl
theorem FNetIsBag.fld60_0 : fieldB Try.prog 60 0 0 = true := by kernel_rfl
theorem FNetIsBag.call32 : callB Try.prog 32 = true := by kernel_rfl
theorem FNetIsBag.isl57 : ∃ el, Try.prog.underlying 57 = some (.slice el) := ⟨60, by kernel_rfl⟩
theorem FNetIsBag.call48 : callB Try.prog 48 = true := by kernel_rfl
theorem FNetIsBag.pl93 : placesB Try.prog 93 [(0, 4), (4, 1)] = true := by kernel_rfl
theorem FNetIsBag.z93 : zeroIs Try.prog 93 [(1, fun _ => .int .i64 0), (1, fun _ => .int .i64 0), (1, fun _ => .int .i64 0), (1, fun _ => .slice none 0 0), (1, fun _ => .bool false)] := zeroIs_agg (by kernel_rfl)
theorem FNetIsBag.zv93 : (Try.prog.info? 93).bind (·.zero) = some (AG [(1, fun _ => .int .i64 0), (1, fun _ => .int .i64 0), (1, fun _ => .int .i64 0), (1, fun _ => .slice none 0 0), (1, fun _ => .bool false)]) := by kernel_rfl
theorem FNetIsBag.slu94 : Try.prog.underlying 94 = some (.slice 93) := by kernel_rfl
theorem FNetIsBag.sz93 : szT Try.prog 93 5 = true := by kernel_rfl
theorem FNetIsBag.isl83 : ∃ el, Try.prog.underlying 83 = some (.slice el) := ⟨89, by kernel_rfl⟩
theorem FNetIsBag.sl83 : slB Try.prog 83 5 = true := by kernel_rfl
theorem FNetIsBag.agg89 : aggT Try.prog 89 5 = true := by kernel_rfl
theorem FNetIsBag.z89 : zeroIs Try.prog 89 [(1, fun _ => .int .i64 0), (1, fun _ => .int .i64 0), (1, fun _ => .int .i64 0), (1, fun _ => .int .i64 0), (1, fun _ => .slice none 0 0)] := zeroIs_agg (by kernel_rfl)
theorem FNetIsBag.sz89 : szT Try.prog 89 5 = true := by kernel_rfl
theorem FNetIsBag.fld89_1 : fieldB Try.prog 89 1 1 = true := by kernel_rfl
theorem FNetIsBag.isl94 : ∃ el, Try.prog.underlying 94 = some (.slice el) := ⟨93, by kernel_rfl⟩
theorem FNetIsBag.sl94 : slB Try.prog 94 5 = true := by kernel_rfl
theorem FNetIsBag.fld93_1 : fieldB Try.prog 93 1 4 = true := by kernel_rfl
theorem FNetIsBag.sc4 : scalarT Try.prog 4 = true := by kernel_rfl
theorem FNetIsBag.fld89_0 : fieldB Try.prog 89 0 0 = true := by kernel_rfl
theorem FNetIsBag.sz4 : szT Try.prog 4 1 = true := by kernel_rfl
theorem FNetIsBag.fld93_0 : fieldB Try.prog 93 0 0 = true := by kernel_rfl
theorem FNetIsBag.call47 : callB Try.prog 47 = true := by kernel_rfl
theorem FNetIsBag.bool4 : boolB Try.prog 4 = true := by kernel_rfl
theorem FNetIsBag.agg93 : aggT Try.prog 93 5 = true := by kernel_rfl
theorem FNetIsBag.el94 : elD Try.prog 94 = some (5, 56, some (AG [(1, fun _ => .int .i64 0), (1, fun _ => .int .i64 0), (1, fun _ => .int .i64 0), (1, fun _ => .slice none 0 0), (1, fun _ => .bool false)])) := by kernel_rfl
theorem FNetIsBag.fld89_2 : fieldB Try.prog 89 2 2 = true := by kernel_rfl
theorem FNetIsBag.fld89_3 : fieldB Try.prog 89 3 3 = true := by kernel_rfl
theorem FNetIsBag.fld89_4 : fieldB Try.prog 89 4 4 = true := by kernel_rfl

set_option maxRecDepth 8000 in
set_option maxHeartbeats 1000000 in
theorem lethelaw23_NetIsBag_ok {B : Nat} {w0 : Base} {w : World} {L : List Rg} {script1 : List (Int × Int × Int × Int × (List Byte))} {ascript1 : Option Addr} {nscript1 cscript1 iscript1 : Nat} (hscript1 : LV (D89.at L) L iscript1 ascript1 nscript1 cscript1 script1) {back2 : Bool} {r : Bool} (hR : lethelaw23_NetIsBag script1 back2 r) (HST : St B w0 (L) w) :
    Calls Try.prog 10 #[.slice ascript1 nscript1 cscript1, .bool back2] w fun e w' => e = .returned (.bool r) ∧ St B w0 (L) w' := by
  refine W.enter 210 Try.func10 rfl rfl rfl ?_
  unfold lethelaw23_NetIsBag at hR
  have hFr : Fr2 L L L L := Fr2.refl _ _
  have escript1 := hscript1.hl; subst escript1
  refine W.seq_k fun K3 hK3 => ?_
  refine W.regionT [(0, true)] (by kernel_rfl) ?_
  refine Plan.assign_bool rfl rfl ?_
  refine Plan.nil ?_
  refine hK3 _ _ ?_; clear hK3
  refine W.seq_k fun K4 hK4 => ?_
  refine W.regionT [(0, false), (1, true), (2, true), (3, true), (4, true), (5, true)] (by kernel_rfl) ?_
  rcases hR with ⟨x_6, hr5, hR⟩ | ⟨x_7, x_8, x_9, x_10, x_11, hr5, hR⟩
  ·
    refine Plan.call (vs := [VN 3, VN 1000]) rfl FNetIsBag.call29 rfl (net_New_ok (LP := L) (by exact fun r hr => List.mem_append_right [] ((fun _ h => h) r hr)) hr5 HST) ?_
    rintro _ w12 ⟨C12, rfl, h12⟩
    replace h12 := St.pool (N := []) (R := []) h12
    obtain ⟨L, hL13⟩ : ∃ X, X = C12 ++ L := ⟨_, rfl⟩
    have h13 := St.re (N := []) hL13 h12
    replace hFr : Fr2 _ _ L L := hFr.step hL13 hL13
    obtain ⟨ix14, hv14⟩ : ∃ i, LV (D89.at L) L i ascript1 script1.length cscript1 script1 := ⟨_, by rw [hL13]; exact (LV.grow D89_lifts (fun r hr => List.mem_append_right _ hr) hscript1).app _⟩
    refine ⟨_, rfl, .inl ⟨PIn.keep PIn.nil h13, ?_⟩⟩
    refine Plan.move_tuple rfl rfl ?_
    refine Plan.extract_ptr rfl rfl rfl ?_
    refine Plan.extract_int rfl rfl rfl ?_
    refine Plan.assign_ptr rfl rfl ?_
    refine Plan.assign_int rfl rfl ?_
    refine Plan.nil ?_
    refine hK4 _ _ ?_; clear hK4
    refine W.seq_k fun K15 hK15 => ?_
    refine W.seq_k fun K20 hK20 => ?_
    refine W.regionT [(0, true), (1, true), (2, true), (3, true), (4, true), (5, true)] (by kernel_rfl) ?_
    refine Plan.move_int rfl rfl ?_
    by_cases hc21 : x_6 ≠ 0
    ·
      replace hR := ifT hR hc21
      refine Plan.cmpV (a := (((x_6 : Nat) : Int) : Int)) (b := (0 : Int)) (p := x_6 ≠ 0) (v := true) rfl rfl rfl rfl icmp_neN (decide_eq_true hc21) ?_
      refine Plan.move_bool rfl rfl ?_
      refine Plan.passed rfl ?_
      refine Plan.passed rfl ?_
      refine Plan.pickTb rfl rfl rfl ?_
      refine Plan.nil ?_
      refine hK20 _ _ ?_; clear hK20
      refine W.condT rfl ?_
      refine W.seq_k fun K22 hK22 => ?_
      refine W.regionT [(0, true)] (by kernel_rfl) ?_
      refine Plan.assign_bool rfl rfl ?_
      refine Plan.nil ?_
      refine hK22 _ _ ?_; clear hK22
      refine W.ret (thenR_ret (finR_ret ?_))
      subst r
      refine RetOk.mk (.tmp_bool rfl .nil) ?_
      obtain ⟨CF, hx1, hx2⟩ := hFr
      subst hx1
      have hdr := St.dropC (N := []) h13
      exact ⟨rfl, hdr⟩
    ·
      replace hR := ifF hR hc21
      refine Plan.cmpV (a := (((x_6 : Nat) : Int) : Int)) (b := (0 : Int)) (p := x_6 ≠ 0) (v := false) rfl rfl rfl rfl icmp_neN (decide_eq_false hc21) ?_
      refine Plan.move_bool rfl rfl ?_
      refine Plan.move_ptr rfl rfl ?_
      refine Plan.eqNil (b := true) FNetIsBag.ptr51 rfl rfl rfl rfl ?_
      refine Plan.pickFb rfl rfl rfl ?_
      refine Plan.nil ?_
      refine hK20 _ _ ?_; clear hK20
      refine W.condT rfl ?_
      refine W.seq_k fun K23 hK23 => ?_
      refine W.regionT [(0, true)] (by kernel_rfl) ?_
      refine Plan.assign_bool rfl rfl ?_
      refine Plan.nil ?_
      refine hK23 _ _ ?_; clear hK23
      refine W.ret (thenR_ret (finR_ret ?_))
      subst r
      refine RetOk.mk (.tmp_bool rfl .nil) ?_
      obtain ⟨CF, hx1, hx2⟩ := hFr
      subst hx1
      have hdr := St.dropC (N := []) h13
      exact ⟨rfl, hdr⟩
  ·
    refine Plan.call (vs := [VN 3, VN 1000]) rfl FNetIsBag.call29 rfl (net_New_ok (w0 := w0) (LP := L) (by exact fun r hr => List.mem_append_right [] ((fun _ h => h) r hr)) hr5 HST) ?_
    rintro _ w26 ⟨C26, b0_24, mw0_2_25, rfl, h26⟩
    replace h26 : St B (w0.on [mapR kvI (D60.at (C26 ++ L)) [] mw0_2_25 x_9]) _ _ := h26
    replace h26 := St.pool (N := [_, _, _, _]) (R := []) h26
    obtain ⟨L, hL27⟩ : ∃ X, X = C26 ++ L := ⟨_, rfl⟩
    have h27 := St.re (N := [_, _, _, _]) hL27 h26
    simp only [List.cons_append, List.nil_append] at h27
    replace hFr : Fr2 _ _ L L := hFr.step hL27 hL27
    obtain ⟨ix28, hv28⟩ : ∃ i, LV (D89.at L) L i ascript1 script1.length cscript1 script1 := ⟨_, by rw [hL27]; exact (LV.grow D89_lifts (fun r hr => List.mem_append_right _ hr) hscript1).app _⟩
    have h30 := St.eqM (A' := L) h27 (i := 0) rfl hL27
    simp only [List.set_cons_zero, List.set_cons_succ] at h30
    refine ⟨_, rfl, .inl ⟨PIn.keep PIn.nil h30, ?_⟩⟩
    refine Plan.move_tuple rfl rfl ?_
    refine Plan.extract_ptr rfl rfl rfl ?_
    refine Plan.extract_int rfl rfl rfl ?_
    refine Plan.assign_ptr rfl rfl ?_
    refine Plan.assign_int rfl rfl ?_
    refine Plan.nil ?_
    refine hK4 _ _ ?_; clear hK4
    refine W.seq_k fun K31 hK31 => ?_
    refine W.seq_k fun K35 hK35 => ?_
    refine W.regionT [(0, true), (1, true), (2, true), (3, true), (4, true), (5, true)] (by kernel_rfl) ?_
    refine Plan.move_int rfl rfl ?_
    by_cases hc36 : x_11 ≠ 0
    ·
      replace hR := ifT hR hc36
      refine Plan.cmpV (a := (((x_11 : Nat) : Int) : Int)) (b := (0 : Int)) (p := x_11 ≠ 0) (v := true) rfl rfl rfl rfl icmp_neN (decide_eq_true hc36) ?_
      refine Plan.move_bool rfl rfl ?_
      refine Plan.passed rfl ?_
      refine Plan.passed rfl ?_
      refine Plan.pickTb rfl rfl rfl ?_
      refine Plan.nil ?_
      refine hK35 _ _ ?_; clear hK35
      refine W.condT rfl ?_
      refine W.seq_k fun K37 hK37 => ?_
      refine W.regionT [(0, true)] (by kernel_rfl) ?_
      refine Plan.assign_bool rfl rfl ?_
      refine Plan.nil ?_
      refine hK37 _ _ ?_; clear hK37
      refine W.ret (thenR_ret (finR_ret ?_))
      have h38 := St.pickT (C := [_, _, _, _]) h30 [] (by decide)
      simp only [pick, List.filterMap_cons, List.filterMap_nil, List.getElem?_cons_zero, List.getElem?_cons_succ, List.cons_append, List.nil_append] at h38
      have h39 : St B w0 _ _ := St.mpick (N := [mapR kvI (D60.at L) [] mw0_2_25 x_9]) (N' := []) h38 [] (by decide) rfl
      subst r
      refine RetOk.mk (.tmp_bool rfl .nil) ?_
      obtain ⟨CF, hx1, hx2⟩ := hFr
      subst hx1
      have hdr := St.dropC (N := []) h39
      exact ⟨rfl, hdr⟩
    ·
      replace hR := ifF hR hc36
      refine Plan.cmpV (a := (((x_11 : Nat) : Int) : Int)) (b := (0 : Int)) (p := x_11 ≠ 0) (v := false) rfl rfl rfl rfl icmp_neN (decide_eq_false hc36) ?_
      refine Plan.move_bool rfl rfl ?_
      refine Plan.move_ptr rfl rfl ?_
      refine Plan.eqNil (b := false) FNetIsBag.ptr51 rfl rfl rfl rfl ?_
      refine Plan.pickFb rfl rfl rfl ?_
      refine Plan.nil ?_
      refine hK35 _ _ ?_; clear hK35
      refine W.condF rfl ?_
      refine W.skip ?_
      refine hK31 _ _ ?_; clear hK31
      refine W.seq_k fun K40 hK40 => ?_
      refine W.regionT [(0, true), (1, false), (2, false), (3, false), (4, true), (5, true), (6, true), (7, true), (8, true)] (by kernel_rfl) ?_
      refine Plan.move_ptr rfl rfl ?_
      refine Plan.constBytesO PIn.nil h30 (f := fun q => VU .u8 (lit ([97#8, 98#8] : List Byte) q)) FNetIsBag.slu23 FNetIsBag.u5 FNetIsBag.sz5 FNetIsBag.zv5 (by decide) (by decide) rfl (fun _ => rfl) (fun _ => rfl) rfl (by kernel_rfl) fun b41 w41 hb41 h41 => ?_
      have h42 := St.pickT (C := [_, _, _, _, _]) h41 [1, 2, 3, 4, 0] (by decide)
      simp only [pick, List.filterMap_cons, List.filterMap_nil, List.getElem?_cons_zero, List.getElem?_cons_succ, List.cons_append, List.nil_append] at h42
      obtain ⟨x_44, x_45, x_46, x_47, hr43, hR⟩ := hR
      refine Plan.call (vs := [.pointer (some ⟨b0_24, 0, none⟩), VN 1, VN 2, .slice (some ⟨b41, 0, none⟩) 2 2]) rfl FNetIsBag.call30 rfl (net_Net_Send_ok (w0 := w0) (LP := L) (by exact fun r hr => List.mem_append_right [_] ((fun _ h => h) r hr)) (by exact (Bx.arr0 (n := 2) (cc := 2) 0 rfl (by omega) (by omega))) hr43 (show St B (w0.on [mapR kvI (D60.at L) [] mw0_2_25 x_9]) _ _ from h42)) ?_
      rintro _ w48 ⟨C48, rfl, h48⟩
      replace h48 : St B (w0.on [mapR kvI (D60.at (C48 ++ L)) [] mw0_2_25 x_47]) _ _ := h48
      replace h48 := St.pool (N := [_, _, _, _]) (R := [_]) h48
      obtain ⟨L, hL49⟩ : ∃ X, X = C48 ++ L := ⟨_, rfl⟩
      have h49 := St.re (N := [_, _, _, _, _]) hL49 h48
      simp only [List.cons_append, List.nil_append] at h49
      replace hFr : Fr2 _ _ L L := hFr.step hL49 hL49
      obtain ⟨ix50, hv50⟩ : ∃ i, LV (D89.at L) L i ascript1 script1.length cscript1 script1 := ⟨_, by rw [hL49]; exact (LV.grow D89_lifts (fun r hr => List.mem_append_right _ hr) hv28).app _⟩
      have h52 := St.eqM (A' := L) h49 (i := 0) rfl hL49
      simp only [List.set_cons_zero, List.set_cons_succ] at h52
      refine ⟨_, rfl, .inl ⟨PIn.keep PIn.nil h52, ?_⟩⟩
      refine Plan.move_tuple rfl rfl ?_
      refine Plan.extract_int rfl rfl rfl ?_
      refine Plan.extract_int rfl rfl rfl ?_
      refine Plan.assign_int rfl rfl ?_
      refine Plan.assign_int rfl rfl ?_
      refine Plan.nil ?_
      refine hK40 _ _ ?_; clear hK40
      refine W.seq_k fun K53 hK53 => ?_
      refine W.seq_k fun K59 hK59 => ?_
      refine W.regionT [(0, true), (1, true), (2, true), (3, true), (4, true), (5, true)] (by kernel_rfl) ?_
      refine Plan.move_int rfl rfl ?_
      by_cases hc60 : x_44 ≠ 0
      ·
        replace hR := ifT hR hc60
        refine Plan.cmpV (a := (x_44 : Int)) (b := (0 : Int)) (p := x_44 ≠ 0) (v := true) rfl rfl rfl rfl icmp_ne (decide_eq_true hc60) ?_
        refine Plan.move_bool rfl rfl ?_
        refine Plan.passed rfl ?_
        refine Plan.passed rfl ?_
        refine Plan.pickTb rfl rfl rfl ?_
        refine Plan.nil ?_
        refine hK59 _ _ ?_; clear hK59
        refine W.condT rfl ?_
        refine W.seq_k fun K61 hK61 => ?_
        refine W.regionT [(0, true)] (by kernel_rfl) ?_
        refine Plan.assign_bool rfl rfl ?_
        refine Plan.nil ?_
        refine hK61 _ _ ?_; clear hK61
        refine W.ret (thenR_ret (finR_ret ?_))
        have h62 := St.pickT (C := [_, _, _, _, _]) h52 [] (by decide)
        simp only [pick, List.filterMap_cons, List.filterMap_nil, List.getElem?_cons_zero, List.getElem?_cons_succ, List.cons_append, List.nil_append] at h62
        have h63 : St B w0 _ _ := St.mpick (N := [mapR kvI (D60.at L) [] mw0_2_25 x_47]) (N' := []) h62 [] (by decide) rfl
        subst r
        refine RetOk.mk (.tmp_bool rfl .nil) ?_
        obtain ⟨CF, hx1, hx2⟩ := hFr
        subst hx1
        have hdr := St.dropC (N := []) h63
        exact ⟨rfl, hdr⟩
      ·
        replace hR := ifF hR hc60
        refine Plan.cmpV (a := (x_44 : Int)) (b := (0 : Int)) (p := x_44 ≠ 0) (v := false) rfl rfl rfl rfl icmp_ne (decide_eq_false hc60) ?_
        refine Plan.move_bool rfl rfl ?_
        refine Plan.move_int rfl rfl ?_
        refine Plan.cmpP (a := (((x_45 : Nat) : Int) : Int)) (b := (0 : Int)) (p := x_45 ≠ 0) rfl rfl rfl rfl icmp_neN ?_
        refine Plan.pickFb rfl rfl rfl ?_
        refine Plan.nil ?_
        refine hK59 _ _ ?_; clear hK59
        by_cases hc64 : x_45 ≠ 0
        ·
          replace hR := ifT hR hc64
          refine W.condT (congrArg Value.bool (decide_eq_true hc64)) ?_
          refine W.seq_k fun K65 hK65 => ?_
          refine W.regionT [(0, true)] (by kernel_rfl) ?_
          refine Plan.assign_bool rfl rfl ?_
          refine Plan.nil ?_
          refine hK65 _ _ ?_; clear hK65
          refine W.ret (thenR_ret (finR_ret ?_))
          have h66 := St.pickT (C := [_, _, _, _, _]) h52 [] (by decide)
          simp only [pick, List.filterMap_cons, List.filterMap_nil, List.getElem?_cons_zero, List.getElem?_cons_succ, List.cons_append, List.nil_append] at h66
          have h67 : St B w0 _ _ := St.mpick (N := [mapR kvI (D60.at L) [] mw0_2_25 x_47]) (N' := []) h66 [] (by decide) rfl
          subst r
          refine RetOk.mk (.tmp_bool rfl .nil) ?_
          obtain ⟨CF, hx1, hx2⟩ := hFr
          subst hx1
          have hdr := St.dropC (N := []) h67
          exact ⟨rfl, hdr⟩
        ·
          replace hR := ifF hR hc64
          refine W.condF (congrArg Value.bool (decide_eq_false hc64)) ?_
          refine W.skip ?_
          refine hK53 _ _ ?_; clear hK53
          refine W.seq_k fun K68 hK68 => ?_
          refine W.regionT [(0, false), (1, false), (2, true), (3, true), (4, false), (5, true)] (by kernel_rfl) ?_
          refine Plan.constBytesO PIn.nil h52 (f := fun q => VU .u8 (lit ([97#8, 98#8] : List Byte) q)) FNetIsBag.slu23 FNetIsBag.u5 FNetIsBag.sz5 FNetIsBag.zv5 (by decide) (by decide) rfl (fun _ => rfl) (fun _ => rfl) rfl (by kernel_rfl) fun b69 w69 hb69 h69 => ?_
          refine Plan.buildP (ps := [(1, fun _ => VN 0), (1, fun _ => VN 1), (1, fun _ => VN 2), (1, fun _ => .slice (some ⟨b69, 0, none⟩) 2 2)]) FNetIsBag.pl60 (by decide) FNetIsBag.z60 rfl rfl (.one [(1, fun _ => VN 0)] [(1, fun _ => VN 0), (1, fun _ => .slice none 0 0)] (fun _ => VN 0) rfl rfl (.one [(1, fun _ => VN 0), (1, fun _ => VN 1)] [(1, fun _ => .slice none 0 0)] (fun _ => VN 0) rfl rfl (.one [(1, fun _ => VN 0), (1, fun _ => VN 1), (1, fun _ => VN 2)] [] (fun _ => .slice none 0 0) rfl rfl .nil))) ?_
          refine Plan.buildP (ps := [(1, fun _ => VN 0), (1, fun _ => VN 1), (1, fun _ => VN 2), (1, fun _ => .slice (some ⟨b69, 0, none⟩) 2 2), (1, fun _ => .bool true)]) FNetIsBag.pl93 (by decide) FNetIsBag.z93 rfl rfl (.agg [] [(1, fun _ => VN 0), (1, fun _ => VN 0), (1, fun _ => VN 0), (1, fun _ => .slice none 0 0)] [(1, fun _ => .bool false)] [(1, fun _ => VN 0), (1, fun _ => VN 1), (1, fun _ => VN 2), (1, fun _ => .slice (some ⟨b69, 0, none⟩) 2 2)] rfl rfl (.one [(1, fun _ => VN 0), (1, fun _ => VN 1), (1, fun _ => VN 2), (1, fun _ => .slice (some ⟨b69, 0, none⟩) 2 2)] [] (fun _ => .bool false) rfl rfl .nil)) ?_
          have h72 := St.pickT (C := [_, _, _, _, _, _]) h69 [1, 2, 3, 4, 5, 0] (by decide)
          simp only [pick, List.filterMap_cons, List.filterMap_nil, List.getElem?_cons_zero, List.getElem?_cons_succ, List.cons_append, List.nil_append] at h72
          obtain ⟨L, hL73⟩ : ∃ X, X = [⟨some b69, 0, 2, fun q => VU .u8 ((lit ([97#8, 98#8] : List Byte)) q), false⟩] ++ L := ⟨_, rfl⟩
          have h73 := St.re (N := [_, _, _, _, _]) hL73 h72
          simp only [List.cons_append, List.nil_append] at h73
          replace hFr : Fr2 _ _ L L := hFr.step hL73 hL73
          obtain ⟨ix74, hv74⟩ : ∃ i, LV (D89.at L) L i ascript1 script1.length cscript1 script1 := ⟨_, by rw [hL73]; exact (LV.grow D89_lifts (fun r hr => List.mem_append_right _ hr) hv50).app _⟩
          have h75 := St.liftM (LP' := L) h73 (i := 0) rfl D60_lifts (fun r hr => by rw [hL73]; exact List.mem_append_right _ hr)
          simp only [List.set_cons_zero, List.set_cons_succ] at h75
          obtain ⟨ix76, hv76⟩ : ∃ i, Bx L i (some ⟨b69, 0, none⟩) 2 2 (dl 2 (lit ([97#8, 98#8] : List Byte))) := ⟨_, by rw [hL73]; exact (Bx.arr0 (n := 2) (cc := 2) 0 rfl (by omega) (by omega))⟩
          refine Plan.buildLO (D := (D93.at L)) (sz := 5) h75 [((some ⟨b69, 0, none⟩, 2), ((0, 1, 2, (dl 2 (lit ([97#8, 98#8] : List Byte))), true) : (Int × Int × Int × (List Byte) × Bool)))] FNetIsBag.slu94 FNetIsBag.sz93 FNetIsBag.zv93 (by decide) (by decide) rfl rfl rfl rfl (by exact (List.forall_mem_cons.2 ⟨⟨_, hv76⟩, (fun _ h => nomatch h)⟩)) (EffO.keep PIn.nil) fun b71 w71 F71 hb71 ho71 h71 => ?_
          replace ho71 : LO (D93.at L) [] (some ⟨b71, 0, none⟩) (some b71) ([(0, 1, 2, (dl 2 (lit ([97#8, 98#8] : List Byte))), true)] : List (Int × Int × Int × (List Byte) × Bool)).length 1 F71 ([(0, 1, 2, (dl 2 (lit ([97#8, 98#8] : List Byte))), true)] : List (Int × Int × Int × (List Byte) × Bool)) := ho71.re (fun _ _ h => h)
          refine Plan.assign_slice rfl rfl ?_
          refine Plan.nil ?_
          refine hK68 _ _ ?_; clear hK68
          refine W.seq_k fun K77 hK77 => ?_
          refine W.seq_k fun K78 hK78 => ?_
          refine W.regionT [(0, true)] (by kernel_rfl) ?_
          refine Plan.assign_int rfl rfl ?_
          refine Plan.nil ?_
          refine hK78 _ _ ?_; clear hK78
          have hFj419 : Fr2 L L L L := Fr2.refl _ _
          obtain ⟨x419, hI419, hR0419⟩ := hR
          refine W.cutN (fun e w => ∃ y_mp416 : List (Int × (Int × Int × Int × (List Byte))), ∃ y_l_417 : List (Int × Int × Int × (List Byte) × Bool), ∃ y_m418 : Int, x419 = some (y_mp416, y_l_417, y_m418) ∧ ∃ CG LG : List Rg, LG = CG ++ L ∧ ∃ L : List Rg, L = LG ∧ ∃ n_l_417 : Nat, ∃ al_417 : Option Addr, ∃ pl_417 : Option Nat, ∃ cl_417 : Nat, ∃ Fl_417 : Nat → Value, EnvHas e [(1, .bool back2), (5, .pointer (some ⟨b0_24, 0, none⟩)), (8, .slice al_417 n_l_417 cl_417)] ∧ St B (w0.on [mapR kvI (D60.at L) [] mw0_2_25 y_mp416]) (⟨pl_417, 0, cl_417 * 5, Fl_417, true⟩ :: ⟨some b0_24, 0, 1, fun _ => .int .i64 x_7, true⟩ :: ⟨some b0_24, 1, 1, fun _ => .int .i64 x_8, true⟩ :: ⟨some b0_24, 2, 1, fun _ => .map (some mw0_2_25), true⟩ :: ⟨some b0_24, 3, 1, fun _ => .int .i64 y_m418, true⟩ :: L) w ∧ LO (D93.at L) [] al_417 pl_417 n_l_417 cl_417 Fl_417 y_l_417) ?_ ?_
          ·
            refine W.block ?_
            have h420 := St.pickT (C := [_, _, _, _, _, _]) h71 [0, 1, 2, 3, 4] (by decide)
            simp only [pick, List.filterMap_cons, List.filterMap_nil, List.getElem?_cons_zero, List.getElem?_cons_succ, List.cons_append, List.nil_append] at h420
            refine W.iter hI419 (fun (s419 : ((List (Int × (Int × Int × Int × (List Byte)))) × (List (Int × Int × Int × (List Byte) × Bool)) × Nat × Int)) e w => ∃ CG LG : List Rg, LG = CG ++ L ∧ ∃ L : List Rg, L = LG ∧ ∃ n_l_413 : Nat, ∃ al_413 : Option Addr, ∃ pl_413 : Option Nat, ∃ cl_413 : Nat, ∃ Fl_413 : Nat → Value, EnvHas e [(0, .slice ascript1 script1.length cscript1), (1, .bool back2), (5, .pointer (some ⟨b0_24, 0, none⟩)), (8, .slice al_413 n_l_413 cl_413), (9, VN s419.2.2.1)] ∧ St B (w0.on [mapR kvI (D60.at L) [] mw0_2_25 s419.1]) (⟨pl_413, 0, cl_413 * 5, Fl_413, true⟩ :: ⟨some b0_24, 0, 1, fun _ => .int .i64 x_7, true⟩ :: ⟨some b0_24, 1, 1, fun _ => .int .i64 x_8, true⟩ :: ⟨some b0_24, 2, 1, fun _ => .map (some mw0_2_25), true⟩ :: ⟨some b0_24, 3, 1, fun _ => .int .i64 s419.2.2.2, true⟩ :: L) w ∧ LO (D93.at L) [] al_413 pl_413 n_l_413 cl_413 Fl_413 s419.2.1) ⟨[], L, rfl, L, rfl, ([(0, 1, 2, (dl 2 (lit ([97#8, 98#8] : List Byte))), true)] : List (Int × Int × Int × (List Byte) × Bool)).length, some ⟨b71, 0, none⟩, some b71, 1, F71, (EnvHas.cons rfl (EnvHas.cons rfl (EnvHas.cons rfl (EnvHas.cons rfl (EnvHas.cons rfl EnvHas.nil))))), h420, ho71⟩ ?_
            rintro ⟨mp412, l_413, i_414, m415⟩ o419 hR hx419 ev421 wl421 ⟨CG421, LG421, hlg421, L, hLe421, n_l_413, al_413, pl_413, cl_413, Fl_413, he421, h421, hl_413⟩
            try dsimp only at he421 h421 hl_413
            obtain rfl : List.length (α := (Int × Int × Int × (List Byte) × Bool)) l_413 = n_l_413 := hl_413.hl
            obtain ⟨ev421, rfl⟩ := he421.open
            unfold lethelaw23_NetIsBag_l0 at hR
            have hL421 := hLe421.trans hlg421
            replace hFr : Fr2 _ _ L L := hFr.step hL421 hL421
            replace hFj419 : Fr2 _ _ L L := hFj419.step hL421 hL421
            obtain ⟨ix423, hv423⟩ : ∃ i, LV (D89.at L) L i ascript1 script1.length cscript1 script1 := ⟨_, by rw [hL421]; exact (LV.grow D89_lifts (fun r hr => List.mem_append_right _ hr) hv74).app _⟩
            refine W.seq_k fun K424 hK424 => ?_
            refine W.seq_k fun K428 hK428 => ?_
            refine W.regionT [(0, true), (1, true), (2, true), (3, true), (4, true), (5, true), (6, true), (7, true)] (by kernel_rfl) ?_
            refine Plan.move_int rfl rfl ?_
            refine Plan.move_slice rfl rfl ?_
            refine Plan.len FNetIsBag.isl83 rfl rfl ?_
            by_cases hc429 : i_414 < script1.length
            ·
              replace hR := ifT hR hc429
              refine Plan.cmpV (a := (((i_414 : Nat) : Int) : Int)) (b := (((script1.length : Nat) : Int) : Int)) (p := i_414 < script1.length) (v := true) rfl rfl rfl rfl icmp_ltN (decide_eq_true hc429) ?_
              refine Plan.move_bool rfl rfl ?_
              refine Plan.move_int rfl rfl ?_
              refine Plan.cmpP (a := (((i_414 : Nat) : Int) : Int)) (b := (200 : Int)) (p := i_414 < 200) rfl rfl rfl rfl icmp_ltN ?_
              refine Plan.pickTb rfl rfl rfl ?_
              refine Plan.nil ?_
              refine hK428 _ _ ?_; clear hK428
              by_cases hc430 : i_414 < 200
              ·
                replace hR := ifT hR hc430
                refine W.condT (congrArg Value.bool (decide_eq_true hc430)) ?_
                refine W.skip ?_
                refine hK424 _ _ ?_; clear hK424
                refine W.seq_k fun K431 hK431 => ?_
                refine W.block ?_
                refine W.seq_k fun K432 hK432 => ?_
                refine W.regionT [(0, true), (1, true), (2, true), (3, true), (4, false), (5, false)] (by kernel_rfl) ?_
                refine Plan.move_slice rfl rfl ?_
                refine Plan.move_int rfl rfl ?_
                obtain ⟨hc433, hR⟩ := hR
                refine Plan.idxLVS (D := (D89.at L)) (j := i_414) h421 (hv423.app [_, _, _, _, _]) FNetIsBag.sl83 rfl rfl rfl hc433 ?_
                refine Plan.loadLV (D := (D89.at L)) (X := script1) (j := i_414) (sz := 5) h421 ((0 : Int), (0 : Int), (0 : Int), (0 : Int), ([] : List Byte)) (hv423.app [_, _, _, _, _]) rfl rfl hc433 rfl FNetIsBag.agg89 fun b434 r434 hs434 hr434 => ?_
                obtain ⟨i434_4, hv434_4⟩ := hs434
                refine Plan.alloc h421 rfl FNetIsBag.z89 (PIn.cons (ix423 + 5) hr434 PIn.nil) fun b435 w435 hb435 h435 => ?_
                simp only [rngs, Nat.zero_add, Nat.reduceAdd, List.cons_append, List.nil_append] at h435
                refine Plan.storeP (ps := [(1, fun _ => .int .i64 ((script1.getD i_414 ((0 : Int), (0 : Int), (0 : Int), (0 : Int), ([] : List Byte))).1)), (1, fun _ => .int .i64 ((script1.getD i_414 ((0 : Int), (0 : Int), (0 : Int), (0 : Int), ([] : List Byte))).2.1)), (1, fun _ => .int .i64 ((script1.getD i_414 ((0 : Int), (0 : Int), (0 : Int), (0 : Int), ([] : List Byte))).2.2.1)), (1, fun _ => .int .i64 ((script1.getD i_414 ((0 : Int), (0 : Int), (0 : Int), (0 : Int), ([] : List Byte))).2.2.2.1)), (1, fun _ => .slice ((b434).1) (((script1.getD i_414 ((0 : Int), (0 : Int), (0 : Int), (0 : Int), ([] : List Byte))).2.2.2.2).length) ((b434).2))]) h435 rfl rfl rfl (.cons 0 rfl (.cons 1 rfl (.cons 2 rfl (.cons 3 rfl (.cons 4 rfl .nil))))) ⟨fun _ _ => rfl, fun _ _ => rfl, fun _ _ => rfl, fun _ _ => rfl, fun _ _ => rfl, trivial⟩ FNetIsBag.sz89 (EffO.wait rfl) fun w436 h436 => ?_
                simp only [List.cons_append, List.nil_append, List.set_cons_zero, List.set_cons_succ] at h436
                refine Plan.nil ?_
                refine hK432 _ _ ?_; clear hK432
                refine W.seq_k fun K437 hK437 => ?_
                refine W.regionT [(0, true), (1, true), (2, true), (3, true), (4, true), (5, true), (6, true), (7, true), (8, true), (9, true), (10, true), (11, true)] (by kernel_rfl) ?_
                refine Plan.fieldAddr 1 FNetIsBag.fld89_1 rfl rfl ?_
                refine Plan.load0 h436 1 rfl rfl rfl (by omega) FNetIsBag.sc3 ?_
                refine Plan.fieldAddr 1 FNetIsBag.fld89_1 rfl rfl ?_
                refine Plan.load0 h436 1 rfl rfl rfl (by omega) FNetIsBag.sc3 ?_
                refine Plan.addW (a := (script1.getD i_414 ((0 : Int), (0 : Int), (0 : Int), (0 : Int), ([] : List Byte))).2.1) (b := 1) rfl rfl rfl ?_
                refine Plan.negW (a := (w64 (((script1.getD i_414 ((0 : Int), (0 : Int), (0 : Int), (0 : Int), ([] : List Byte))).2.1) + 1))) rfl rfl ?_
                refine Plan.maxI (a := (script1.getD i_414 ((0 : Int), (0 : Int), (0 : Int), (0 : Int), ([] : List Byte))).2.1) (b := (w64 (-(w64 (((script1.getD i_414 ((0 : Int), (0 : Int), (0 : Int), (0 : Int), ([] : List Byte))).2.1) + 1))))) rfl rfl rfl ?_
                refine Plan.move_slice rfl rfl ?_
                refine Plan.len FNetIsBag.isl94 rfl rfl ?_
                obtain ⟨hc438, hR⟩ := hR
                refine Plan.addN (a := l_413.length) (b := 1) rfl rfl rfl (by omega) ?_
                obtain ⟨hc439, hR⟩ := hR
                refine Plan.remI (a := (max ((script1.getD i_414 ((0 : Int), (0 : Int), (0 : Int), (0 : Int), ([] : List Byte))).2.1) (w64 (-(w64 (((script1.getD i_414 ((0 : Int), (0 : Int), (0 : Int), (0 : Int), ([] : List Byte))).2.1) + 1)))))) (b := (((l_413.length + 1) : Nat) : Int)) rfl rfl rfl hc439 ?_
                refine Plan.assign_int rfl rfl ?_
                refine Plan.nil ?_
                refine hK437 _ _ ?_; clear hK437
                refine W.seq_k fun K440 hK440 => ?_
                obtain ⟨here444, hX445, hR0445⟩ := hR
                refine W.cutN (fun e w => ∃ y_here444 : Bool, (here444 = y_here444) ∧ EnvHas e [(0, .slice ascript1 script1.length cscript1), (1, .bool back2), (5, .pointer (some ⟨b0_24, 0, none⟩)), (8, .slice al_413 l_413.length cl_413), (9, VN i_414), (10, .pointer (some ⟨b435, 0, none⟩)), (11, .int .i64 ((max ((script1.getD i_414 ((0 : Int), (0 : Int), (0 : Int), (0 : Int), ([] : List Byte))).2.1) (w64 (-(w64 (((script1.getD i_414 ((0 : Int), (0 : Int), (0 : Int), (0 : Int), ([] : List Byte))).2.1) + 1))))).tmod (((l_413.length + 1) : Nat) : Int))), (12, .bool y_here444), (54, VN i_414), (55, .bool (decide (i_414 < 200)))] ∧ St B (w0.on [mapR kvI (D60.at L) [] mw0_2_25 mp412]) (⟨some b435, 0, 1, fun _ => .int .i64 ((script1.getD i_414 ((0 : Int), (0 : Int), (0 : Int), (0 : Int), ([] : List Byte))).1), true⟩ :: ⟨some b435, 1, 1, fun _ => .int .i64 ((script1.getD i_414 ((0 : Int), (0 : Int), (0 : Int), (0 : Int), ([] : List Byte))).2.1), true⟩ :: ⟨some b435, 2, 1, fun _ => .int .i64 ((script1.getD i_414 ((0 : Int), (0 : Int), (0 : Int), (0 : Int), ([] : List Byte))).2.2.1), true⟩ :: ⟨some b435, 3, 1, fun _ => .int .i64 ((script1.getD i_414 ((0 : Int), (0 : Int), (0 : Int), (0 : Int), ([] : List Byte))).2.2.2.1), true⟩ :: ⟨some b435, 4, 1, fun _ => .slice ((b434).1) (((script1.getD i_414 ((0 : Int), (0 : Int), (0 : Int), (0 : Int), ([] : List Byte))).2.2.2.2).length) ((b434).2), true⟩ :: ⟨pl_413, 0, cl_413 * 5, Fl_413, true⟩ :: ⟨some b0_24, 0, 1, fun _ => .int .i64 x_7, true⟩ :: ⟨some b0_24, 1, 1, fun _ => .int .i64 x_8, true⟩ :: ⟨some b0_24, 2, 1, fun _ => .map (some mw0_2_25), true⟩ :: ⟨some b0_24, 3, 1, fun _ => .int .i64 m415, true⟩ :: L) w) ?_ ?_
                ·
                  replace hR := hX445
                  refine W.regionT [(0, true), (1, true), (2, true), (3, true), (4, true), (5, true), (6, true), (7, true), (8, true), (9, true), (10, true), (11, true)] (by kernel_rfl) ?_
                  refine Plan.move_int rfl rfl ?_
                  refine Plan.move_slice rfl rfl ?_
                  refine Plan.len FNetIsBag.isl94 rfl rfl ?_
                  by_cases hc446 : ((max ((script1.getD i_414 ((0 : Int), (0 : Int), (0 : Int), (0 : Int), ([] : List Byte))).2.1) (w64 (-(w64 (((script1.getD i_414 ((0 : Int), (0 : Int), (0 : Int), (0 : Int), ([] : List Byte))).2.1) + 1))))).tmod (((l_413.length + 1) : Nat) : Int)) < ((l_413.length : Nat) : Int)
                  ·
                    replace hR := ifT hR hc446
                    refine Plan.cmpV (a := (((max ((script1.getD i_414 ((0 : Int), (0 : Int), (0 : Int), (0 : Int), ([] : List Byte))).2.1) (w64 (-(w64 (((script1.getD i_414 ((0 : Int), (0 : Int), (0 : Int), (0 : Int), ([] : List Byte))).2.1) + 1))))).tmod (((l_413.length + 1) : Nat) : Int)) : Int)) (b := (((l_413.length : Nat) : Int) : Int)) (p := ((max ((script1.getD i_414 ((0 : Int), (0 : Int), (0 : Int), (0 : Int), ([] : List Byte))).2.1) (w64 (-(w64 (((script1.getD i_414 ((0 : Int), (0 : Int), (0 : Int), (0 : Int), ([] : List Byte))).2.1) + 1))))).tmod (((l_413.length + 1) : Nat) : Int)) < ((l_413.length : Nat) : Int)) (v := true) rfl rfl rfl rfl icmp_lt (decide_eq_true hc446) ?_
                    refine Plan.move_bool rfl rfl ?_
                    refine Plan.move_slice rfl rfl ?_
                    refine Plan.move_int rfl rfl ?_
                    obtain ⟨hc447, hR⟩ := hR
                    refine Plan.idxLVS (D := (D93.at L)) (j := ((max ((script1.getD i_414 ((0 : Int), (0 : Int), (0 : Int), (0 : Int), ([] : List Byte))).2.1) (w64 (-(w64 (((script1.getD i_414 ((0 : Int), (0 : Int), (0 : Int), (0 : Int), ([] : List Byte))).2.1) + 1))))).tmod (((l_413.length + 1) : Nat) : Int)).toNat) h436 (LO.lvf EL.at_flat hl_413 5 rfl) FNetIsBag.sl94 rfl rfl (congrArg (Value.int .i64) (Int.toNat_of_nonneg hc447.1).symm) (toNat_lt hc447.1 hc447.2) ?_
                    refine Plan.fieldLV (D := (D93.at L)) (j := ((max ((script1.getD i_414 ((0 : Int), (0 : Int), (0 : Int), (0 : Int), ([] : List Byte))).2.1) (w64 (-(w64 (((script1.getD i_414 ((0 : Int), (0 : Int), (0 : Int), (0 : Int), ([] : List Byte))).2.1) + 1))))).tmod (((l_413.length + 1) : Nat) : Int)).toNat) (sz := 5) h436 4 (LO.lvf EL.at_flat hl_413 5 rfl) (toNat_lt hc447.1 hc447.2) FNetIsBag.fld93_1 rfl rfl ?_
                    refine Plan.loadLVf (D := (D93.at L)) (X := l_413) (j := ((max ((script1.getD i_414 ((0 : Int), (0 : Int), (0 : Int), (0 : Int), ([] : List Byte))).2.1) (w64 (-(w64 (((script1.getD i_414 ((0 : Int), (0 : Int), (0 : Int), (0 : Int), ([] : List Byte))).2.1) + 1))))).tmod (((l_413.length + 1) : Nat) : Int)).toNat) (sz := 5) (off := 4) h436 ((0 : Int), (0 : Int), (0 : Int), ([] : List Byte), false) (fun _ x => .bool x.2.2.2.2) (LO.lvf EL.at_flat hl_413 5 rfl) rfl rfl (toNat_lt hc447.1 hc447.2) rfl (by decide) (fun _ _ => rfl) FNetIsBag.sc4 fun b448 r448 hs448 hr448 => ?_
                    refine Plan.pickTb rfl rfl rfl ?_
                    refine Plan.assign_bool rfl rfl ?_
                    refine Plan.nil ?_
                    exact ⟨(l_413.getD (((max ((script1.getD i_414 ((0 : Int), (0 : Int), (0 : Int), (0 : Int), ([] : List Byte))).2.1) (w64 (-(w64 (((script1.getD i_414 ((0 : Int), (0 : Int), (0 : Int), (0 : Int), ([] : List Byte))).2.1) + 1))))).tmod (((l_413.length + 1) : Nat) : Int)).toNat) ((0 : Int), (0 : Int), (0 : Int), ([] : List Byte), false)).2.2.2.2, hR, (EnvHas.cons rfl (EnvHas.cons rfl (EnvHas.cons rfl (EnvHas.cons rfl (EnvHas.cons rfl (EnvHas.cons rfl (EnvHas.cons rfl (EnvHas.cons rfl (EnvHas.cons rfl (EnvHas.cons rfl EnvHas.nil)))))))))), h436⟩
                  ·
                    replace hR := ifF hR hc446
                    refine Plan.cmpV (a := (((max ((script1.getD i_414 ((0 : Int), (0 : Int), (0 : Int), (0 : Int), ([] : List Byte))).2.1) (w64 (-(w64 (((script1.getD i_414 ((0 : Int), (0 : Int), (0 : Int), (0 : Int), ([] : List Byte))).2.1) + 1))))).tmod (((l_413.length + 1) : Nat) : Int)) : Int)) (b := (((l_413.length : Nat) : Int) : Int)) (p := ((max ((script1.getD i_414 ((0 : Int), (0 : Int), (0 : Int), (0 : Int), ([] : List Byte))).2.1) (w64 (-(w64 (((script1.getD i_414 ((0 : Int), (0 : Int), (0 : Int), (0 : Int), ([] : List Byte))).2.1) + 1))))).tmod (((l_413.length + 1) : Nat) : Int)) < ((l_413.length : Nat) : Int)) (v := false) rfl rfl rfl rfl icmp_lt (decide_eq_false hc446) ?_
                    refine Plan.move_bool rfl rfl ?_
                    refine Plan.passed rfl ?_
                    refine Plan.passed rfl ?_
                    refine Plan.passed rfl ?_
                    refine Plan.passed rfl ?_
                    refine Plan.passed rfl ?_
                    refine Plan.pickFb rfl rfl rfl ?_
                    refine Plan.assign_bool rfl rfl ?_
                    refine Plan.nil ?_
                    exact ⟨false, hR, (EnvHas.cons rfl (EnvHas.cons rfl (EnvHas.cons rfl (EnvHas.cons rfl (EnvHas.cons rfl (EnvHas.cons rfl (EnvHas.cons rfl (EnvHas.cons rfl (EnvHas.cons rfl (EnvHas.cons rfl EnvHas.nil)))))))))), h436⟩
                ·
                  rintro ev449 wl449 ⟨y_here444, hy449_0, he449, h449⟩
                  subst hy449_0
                  obtain ⟨ev449, rfl⟩ := he449.open
                  replace hR := hR0445
                  refine hK440 _ _ ?_; clear hK440
                  refine W.seq_k fun K450 hK450 => ?_
                  refine W.regionT [(0, true), (1, true)] (by kernel_rfl) ?_
                  refine Plan.fieldAddr0 FNetIsBag.fld89_0 rfl rfl ?_
                  refine Plan.load0 h449 0 rfl rfl rfl (by omega) FNetIsBag.sc3 ?_
                  refine Plan.nil ?_
                  refine hK450 _ _ ?_; clear hK450
                  refine W.block ?_
                  refine W.seq_k fun K451 hK451 => ?_
                  refine W.regionT [(0, true), (1, true)] (by kernel_rfl) ?_
                  refine Plan.cmpP (a := ((script1.getD i_414 ((0 : Int), (0 : Int), (0 : Int), (0 : Int), ([] : List Byte))).1 : Int)) (b := (2 : Int)) (p := (script1.getD i_414 ((0 : Int), (0 : Int), (0 : Int), (0 : Int), ([] : List Byte))).1 = 2) rfl rfl rfl rfl icmp_eq ?_
                  refine Plan.assign_bool rfl rfl ?_
                  refine Plan.nil ?_
                  refine hK451 _ _ ?_; clear hK451
                  by_cases hc452 : (script1.getD i_414 ((0 : Int), (0 : Int), (0 : Int), (0 : Int), ([] : List Byte))).1 = 2
                  ·
                    replace hR := ifT hR hc452
                    refine W.condT (congrArg Value.bool (decide_eq_true hc452)) ?_
                    refine W.seq_k fun K453 hK453 => ?_
                    refine W.regionT [(0, true), (1, true), (2, true), (3, false), (4, true)] (by kernel_rfl) ?_
                    refine Plan.move_ptr rfl rfl ?_
                    refine Plan.move_slice rfl rfl ?_
                    refine Plan.move_int rfl rfl ?_
                    have h454 := St.pickT (C := [_, _, _, _, _, _, _, _, _, _]) h449 [6, 7, 8, 9, 5, 0, 1, 2, 3, 4] (by decide)
                    simp only [pick, List.filterMap_cons, List.filterMap_nil, List.getElem?_cons_zero, List.getElem?_cons_succ, List.cons_append, List.nil_append] at h454
                    obtain ⟨x_456, x_457, x_458, hr455, hR⟩ := hR
                    refine Plan.call (vs := [.pointer (some ⟨b0_24, 0, none⟩), .slice al_413 l_413.length cl_413, .int .i64 ((max ((script1.getD i_414 ((0 : Int), (0 : Int), (0 : Int), (0 : Int), ([] : List Byte))).2.1) (w64 (-(w64 (((script1.getD i_414 ((0 : Int), (0 : Int), (0 : Int), (0 : Int), ([] : List Byte))).2.1) + 1))))).tmod (((l_413.length + 1) : Nat) : Int))]) rfl FNetIsBag.call47 rfl (lethelaw23_brought_ok (w0 := w0) (LP := L) (by exact fun r hr => List.mem_append_right [_, _, _, _, _] ((fun _ h => h) r hr)) (by exact hl_413) hr455 (show St B (w0.on [mapR kvI (D60.at L) [] mw0_2_25 mp412]) _ _ from h454)) ?_
                    rintro _ w460 ⟨C460, Fql_6_459, rfl, h460, hf460_0⟩
                    replace h460 : St B (w0.on [mapR kvI (D60.at (C460 ++ L)) [] mw0_2_25 x_457]) _ _ := h460
                    try dsimp only at hf460_0
                    replace h460 := St.pool (N := [_, _, _, _, _]) (R := [_, _, _, _, _]) h460
                    obtain ⟨L, hL461⟩ : ∃ X, X = C460 ++ L := ⟨_, rfl⟩
                    have h461 := St.re (N := [_, _, _, _, _, _, _, _, _, _]) hL461 h460
                    simp only [List.cons_append, List.nil_append] at h461
                    replace hFr : Fr2 _ _ L L := hFr.step hL461 hL461
                    replace hFj419 : Fr2 _ _ L L := hFj419.step hL461 hL461
                    obtain ⟨ix462, hv462⟩ : ∃ i, LV (D89.at L) L i ascript1 script1.length cscript1 script1 := ⟨_, by rw [hL461]; exact (LV.grow D89_lifts (fun r hr => List.mem_append_right _ hr) hv423).app _⟩
                    obtain ⟨ix463, hv463⟩ : ∃ i, Bx L i ((b434).1) (((script1.getD i_414 ((0 : Int), (0 : Int), (0 : Int), (0 : Int), ([] : List Byte))).2.2.2.2).length) ((b434).2) ((script1.getD i_414 ((0 : Int), (0 : Int), (0 : Int), (0 : Int), ([] : List Byte))).2.2.2.2) := ⟨_, by rw [hL461]; exact hv434_4.app _⟩
                    have h465 := St.eqM (A' := L) h461 (i := 0) rfl hL461
                    simp only [List.set_cons_zero, List.set_cons_succ] at h465
                    have ho466 : LO (D93.at L) [] al_413 pl_413 l_413.length cl_413 Fql_6_459 x_458 := LO.grow D93_lifts (fun r hr => (by rw [hL461]; exact hr)) hf460_0
                    refine ⟨_, rfl, .inl ⟨PIn.keep PIn.nil h465, ?_⟩⟩
                    refine Plan.not rfl rfl ?_
                    refine Plan.nil ?_
                    refine hK453 _ _ ?_; clear hK453
                    by_cases hc467 : x_456 = true
                    ·
                      replace hR := ifT hR hc467
                      refine W.condF (congrArg Value.bool (congrArg Bool.not hc467)) ?_
                      refine W.skip ?_
                      refine blockR_norm ?_
                      refine blockR_norm ?_
                      refine hK431 _ _ ?_; clear hK431
                      refine W.regionT [(0, true), (1, true), (2, true)] (by kernel_rfl) ?_
                      refine Plan.move_int rfl rfl ?_
                      refine Plan.addN (a := i_414) (b := 1) rfl rfl rfl (by omega) ?_
                      refine Plan.assign_int rfl rfl ?_
                      refine Plan.nil ?_
                      have h468 := St.pickT (C := [_, _, _, _, _, _, _, _, _, _]) h465 [4, 0, 1, 2, 3] (by decide)
                      simp only [pick, List.filterMap_cons, List.filterMap_nil, List.getElem?_cons_zero, List.getElem?_cons_succ, List.cons_append, List.nil_append] at h468
                      obtain ⟨CF469, hx469, hy469⟩ := hFj419
                      exact iterR_norm ⟨_, hR, CF469, L, hx469, L, rfl, l_413.length, al_413, pl_413, cl_413, Fql_6_459, (EnvHas.cons rfl (EnvHas.cons rfl (EnvHas.cons rfl (EnvHas.cons rfl (EnvHas.cons rfl EnvHas.nil))))), h468, ho466⟩
                    ·
                      replace hR := ifF hR hc467
                      refine W.condT (congrArg Value.bool (congrArg Bool.not (Bool.eq_false_iff.2 hc467))) ?_
                      refine W.seq_k fun K470 hK470 => ?_
                      refine W.regionT [(0, true)] (by kernel_rfl) ?_
                      refine Plan.assign_bool rfl rfl ?_
                      refine Plan.nil ?_
                      refine hK470 _ _ ?_; clear hK470
                      refine W.ret (blockR_ret (blockR_ret (thenR_ret (iterR_ret (blockR_ret (thenR_ret (thenR_ret (finR_ret ?_))))))))
                      have h471 := St.pickT (C := [_, _, _, _, _, _, _, _, _, _]) h465 [] (by decide)
                      simp only [pick, List.filterMap_cons, List.filterMap_nil, List.getElem?_cons_zero, List.getElem?_cons_succ, List.cons_append, List.nil_append] at h471
                      have h472 : St B w0 _ _ := St.mpick (N := [mapR kvI (D60.at L) [] mw0_2_25 x_457]) (N' := []) h471 [] (by decide) rfl
                      replace hR := hR.2
                      subst r
                      refine RetOk.mk (.tmp_bool rfl .nil) ?_
                      obtain ⟨CF, hx1, hx2⟩ := hFr
                      subst hx1
                      have hdr := St.dropC (N := []) h472
                      exact ⟨rfl, hdr⟩
                  ·
                    replace hR := ifF hR hc452
                    refine W.condF (congrArg Value.bool (decide_eq_false hc452)) ?_
                    refine W.seq_k fun K473 hK473 => ?_
                    refine W.regionT [(0, true), (1, true)] (by kernel_rfl) ?_
                    refine Plan.cmpP (a := ((script1.getD i_414 ((0 : Int), (0 : Int), (0 : Int), (0 : Int), ([] : List Byte))).1 : Int)) (b := (3 : Int)) (p := (script1.getD i_414 ((0 : Int), (0 : Int), (0 : Int), (0 : Int), ([] : List Byte))).1 = 3) rfl rfl rfl rfl icmp_eq ?_
                    refine Plan.assign_bool rfl rfl ?_
                    refine Plan.nil ?_
                    refine hK473 _ _ ?_; clear hK473
                    by_cases hc474 : (script1.getD i_414 ((0 : Int), (0 : Int), (0 : Int), (0 : Int), ([] : List Byte))).1 = 3
                    ·
                      replace hR := ifT hR hc474
                      refine W.condT (congrArg Value.bool (decide_eq_true hc474)) ?_
                      refine W.seq_k fun K475 hK475 => ?_
                      refine W.seq_k fun K476 hK476 => ?_
                      refine W.regionT [(0, true), (1, true), (2, false), (3, true), (4, true), (5, true)] (by kernel_rfl) ?_
                      refine Plan.move_ptr rfl rfl ?_
                      refine Plan.move_int rfl rfl ?_
                      have h477 := St.pickT (C := [_, _, _, _, _, _, _, _, _, _]) h449 [6, 7, 8, 9, 0, 1, 2, 3, 4, 5] (by decide)
                      simp only [pick, List.filterMap_cons, List.filterMap_nil, List.getElem?_cons_zero, List.getElem?_cons_succ, List.cons_append, List.nil_append] at h477
                      obtain ⟨x_479, x_480, hr478, hR⟩ := hR
                      refine Plan.call (vs := [.pointer (some ⟨b0_24, 0, none⟩), .int .i64 ((max ((script1.getD i_414 ((0 : Int), (0 : Int), (0 : Int), (0 : Int), ([] : List Byte))).2.1) (w64 (-(w64 (((script1.getD i_414 ((0 : Int), (0 : Int), (0 : Int), (0 : Int), ([] : List Byte))).2.1) + 1))))).tmod (((l_413.length + 1) : Nat) : Int))]) rfl FNetIsBag.call48 rfl (net_Net_Drop_ok (w0 := w0) (LP := L) (by exact fun r hr => List.mem_append_right [_, _, _, _, _, _] ((fun _ h => h) r hr)) hr478 (show St B (w0.on [mapR kvI (D60.at L) [] mw0_2_25 mp412]) _ _ from h477)) ?_
                      rintro _ w481 ⟨C481, rfl, h481⟩
                      replace h481 : St B (w0.on [mapR kvI (D60.at (C481 ++ L)) [] mw0_2_25 x_480]) _ _ := h481
                      replace h481 := St.pool (N := [_, _, _, _]) (R := [_, _, _, _, _, _]) h481
                      obtain ⟨L, hL482⟩ : ∃ X, X = C481 ++ L := ⟨_, rfl⟩
                      have h482 := St.re (N := [_, _, _, _, _, _, _, _, _, _]) hL482 h481
                      simp only [List.cons_append, List.nil_append] at h482
                      replace hFr : Fr2 _ _ L L := hFr.step hL482 hL482
                      replace hFj419 : Fr2 _ _ L L := hFj419.step hL482 hL482
                      obtain ⟨ix483, hv483⟩ : ∃ i, LV (D89.at L) L i ascript1 script1.length cscript1 script1 := ⟨_, by rw [hL482]; exact (LV.grow D89_lifts (fun r hr => List.mem_append_right _ hr) hv423).app _⟩
                      obtain ⟨ix484, hv484⟩ : ∃ i, Bx L i ((b434).1) (((script1.getD i_414 ((0 : Int), (0 : Int), (0 : Int), (0 : Int), ([] : List Byte))).2.2.2.2).length) ((b434).2) ((script1.getD i_414 ((0 : Int), (0 : Int), (0 : Int), (0 : Int), ([] : List Byte))).2.2.2.2) := ⟨_, by rw [hL482]; exact hv434_4.app _⟩
                      have ho485 : LO (D93.at L) [] al_413 pl_413 ((l_413).length) cl_413 Fl_413 l_413 := by rw [hL482]; exact LO.grow D93_lifts (fun r hr => List.mem_append_right _ hr) hl_413
                      have h487 := St.eqM (A' := L) h482 (i := 0) rfl hL482
                      simp only [List.set_cons_zero, List.set_cons_succ] at h487
                      refine ⟨_, rfl, .inl ⟨PIn.keep PIn.nil h487, ?_⟩⟩
                      refine Plan.cmpP (a := (((x_479 : Nat) : Int) : Int)) (b := (0 : Int)) (p := x_479 = 0) rfl rfl rfl rfl icmp_eqN ?_
                      refine Plan.move_bool rfl rfl ?_
                      refine Plan.neBoolV (v := ((decide (x_479 = 0)) != here444)) FNetIsBag.bool4 rfl rfl rfl rfl ?_
                      refine Plan.nil ?_
                      refine hK476 _ _ ?_; clear hK476
                      by_cases hc488 : ((decide (x_479 = 0)) != here444) = true
                      ·
                        replace hR := ifT hR hc488
                        refine W.condT (congrArg Value.bool hc488) ?_
                        refine W.seq_k fun K489 hK489 => ?_
                        refine W.regionT [(0, true)] (by kernel_rfl) ?_
                        refine Plan.assign_bool rfl rfl ?_
                        refine Plan.nil ?_
                        refine hK489 _ _ ?_; clear hK489
                        refine W.ret (thenR_ret (blockR_ret (blockR_ret (thenR_ret (iterR_ret (blockR_ret (thenR_ret (thenR_ret (finR_ret ?_)))))))))
                        have h490 := St.pickT (C := [_, _, _, _, _, _, _, _, _, _]) h487 [] (by decide)
                        simp only [pick, List.filterMap_cons, List.filterMap_nil, List.getElem?_cons_zero, List.getElem?_cons_succ, List.cons_append, List.nil_append] at h490
                        have h491 : St B w0 _ _ := St.mpick (N := [mapR kvI (D60.at L) [] mw0_2_25 x_480]) (N' := []) h490 [] (by decide) rfl
                        replace hR := hR.2
                        subst r
                        refine RetOk.mk (.tmp_bool rfl .nil) ?_
                        obtain ⟨CF, hx1, hx2⟩ := hFr
                        subst hx1
                        have hdr := St.dropC (N := []) h491
                        exact ⟨rfl, hdr⟩
                      ·
                        replace hR := ifF hR hc488
                        refine W.condF (congrArg Value.bool (Bool.eq_false_iff.2 hc488)) ?_
                        refine W.skip ?_
                        refine hK475 _ _ ?_; clear hK475
                        refine W.seq_k fun K492 hK492 => ?_
                        refine W.regionT [(0, true)] (by kernel_rfl) ?_
                        refine Plan.move_bool rfl rfl ?_
                        refine Plan.nil ?_
                        refine hK492 _ _ ?_; clear hK492
                        by_cases hc493 : here444 = true
                        ·
                          replace hR := ifT hR hc493
                          refine W.condT (congrArg Value.bool hc493) ?_
                          refine W.regionT [(0, true), (1, true), (2, true), (3, true), (4, false)] (by kernel_rfl) ?_
                          refine Plan.move_slice rfl rfl ?_
                          refine Plan.move_int rfl rfl ?_
                          obtain ⟨hc494, hR⟩ := hR
                          refine Plan.idxLVS (D := (D93.at L)) (j := ((max ((script1.getD i_414 ((0 : Int), (0 : Int), (0 : Int), (0 : Int), ([] : List Byte))).2.1) (w64 (-(w64 (((script1.getD i_414 ((0 : Int), (0 : Int), (0 : Int), (0 : Int), ([] : List Byte))).2.1) + 1))))).tmod (((l_413.length + 1) : Nat) : Int)).toNat) h487 (LO.lvf EL.at_flat ho485 9 rfl) FNetIsBag.sl94 rfl rfl (congrArg (Value.int .i64) (Int.toNat_of_nonneg hc494.1).symm) (toNat_lt hc494.1 hc494.2) ?_
                          refine Plan.fieldLV (D := (D93.at L)) (j := ((max ((script1.getD i_414 ((0 : Int), (0 : Int), (0 : Int), (0 : Int), ([] : List Byte))).2.1) (w64 (-(w64 (((script1.getD i_414 ((0 : Int), (0 : Int), (0 : Int), (0 : Int), ([] : List Byte))).2.1) + 1))))).tmod (((l_413.length + 1) : Nat) : Int)).toNat) (sz := 5) h487 4 (LO.lvf EL.at_flat ho485 9 rfl) (toNat_lt hc494.1 hc494.2) FNetIsBag.fld93_1 rfl rfl ?_
                          refine Plan.storeLOf (D := (D93.at L)) (j := ((max ((script1.getD i_414 ((0 : Int), (0 : Int), (0 : Int), (0 : Int), ([] : List Byte))).2.1) (w64 (-(w64 (((script1.getD i_414 ((0 : Int), (0 : Int), (0 : Int), (0 : Int), ([] : List Byte))).2.1) + 1))))).tmod (((l_413.length + 1) : Nat) : Int)).toNat) (sz := 5) (off := 4) h487 ((0 : Int), (0 : Int), (0 : Int), ([] : List Byte), false) ((l_413.getD (((max ((script1.getD i_414 ((0 : Int), (0 : Int), (0 : Int), (0 : Int), ([] : List Byte))).2.1) (w64 (-(w64 (((script1.getD i_414 ((0 : Int), (0 : Int), (0 : Int), (0 : Int), ([] : List Byte))).2.1) + 1))))).tmod (((l_413.length + 1) : Nat) : Int)).toNat) ((0 : Int), (0 : Int), (0 : Int), ([] : List Byte), false)).1, (l_413.getD (((max ((script1.getD i_414 ((0 : Int), (0 : Int), (0 : Int), (0 : Int), ([] : List Byte))).2.1) (w64 (-(w64 (((script1.getD i_414 ((0 : Int), (0 : Int), (0 : Int), (0 : Int), ([] : List Byte))).2.1) + 1))))).tmod (((l_413.length + 1) : Nat) : Int)).toNat) ((0 : Int), (0 : Int), (0 : Int), ([] : List Byte), false)).2.1, (l_413.getD (((max ((script1.getD i_414 ((0 : Int), (0 : Int), (0 : Int), (0 : Int), ([] : List Byte))).2.1) (w64 (-(w64 (((script1.getD i_414 ((0 : Int), (0 : Int), (0 : Int), (0 : Int), ([] : List Byte))).2.1) + 1))))).tmod (((l_413.length + 1) : Nat) : Int)).toNat) ((0 : Int), (0 : Int), (0 : Int), ([] : List Byte), false)).2.2.1, (l_413.getD (((max ((script1.getD i_414 ((0 : Int), (0 : Int), (0 : Int), (0 : Int), ([] : List Byte))).2.1) (w64 (-(w64 (((script1.getD i_414 ((0 : Int), (0 : Int), (0 : Int), (0 : Int), ([] : List Byte))).2.1) + 1))))).tmod (((l_413.length + 1) : Nat) : Int)).toNat) ((0 : Int), (0 : Int), (0 : Int), ([] : List Byte), false)).2.2.2.1, false) (.bool false) 9 ho485 (fun b hs => ⟨by exact hs, by rfl⟩) rfl rfl rfl rfl (toNat_lt hc494.1 hc494.2) rfl (by decide) rfl FNetIsBag.sz4 rfl fun w495 F495 ho495 h495 => ?_
                          simp only [List.cons_append, List.nil_append, List.set_cons_zero, List.set_cons_succ] at h495
                          have e495 : (l_413.set (((max ((script1.getD i_414 ((0 : Int), (0 : Int), (0 : Int), (0 : Int), ([] : List Byte))).2.1) (w64 (-(w64 (((script1.getD i_414 ((0 : Int), (0 : Int), (0 : Int), (0 : Int), ([] : List Byte))).2.1) + 1))))).tmod (((l_413.length + 1) : Nat) : Int)).toNat) ((l_413.getD (((max ((script1.getD i_414 ((0 : Int), (0 : Int), (0 : Int), (0 : Int), ([] : List Byte))).2.1) (w64 (-(w64 (((script1.getD i_414 ((0 : Int), (0 : Int), (0 : Int), (0 : Int), ([] : List Byte))).2.1) + 1))))).tmod (((l_413.length + 1) : Nat) : Int)).toNat) ((0 : Int), (0 : Int), (0 : Int), ([] : List Byte), false)).1, (l_413.getD (((max ((script1.getD i_414 ((0 : Int), (0 : Int), (0 : Int), (0 : Int), ([] : List Byte))).2.1) (w64 (-(w64 (((script1.getD i_414 ((0 : Int), (0 : Int), (0 : Int), (0 : Int), ([] : List Byte))).2.1) + 1))))).tmod (((l_413.length + 1) : Nat) : Int)).toNat) ((0 : Int), (0 : Int), (0 : Int), ([] : List Byte), false)).2.1, (l_413.getD (((max ((script1.getD i_414 ((0 : Int), (0 : Int), (0 : Int), (0 : Int), ([] : List Byte))).2.1) (w64 (-(w64 (((script1.getD i_414 ((0 : Int), (0 : Int), (0 : Int), (0 : Int), ([] : List Byte))).2.1) + 1))))).tmod (((l_413.length + 1) : Nat) : Int)).toNat) ((0 : Int), (0 : Int), (0 : Int), ([] : List Byte), false)).2.2.1, (l_413.getD (((max ((script1.getD i_414 ((0 : Int), (0 : Int), (0 : Int), (0 : Int), ([] : List Byte))).2.1) (w64 (-(w64 (((script1.getD i_414 ((0 : Int), (0 : Int), (0 : Int), (0 : Int), ([] : List Byte))).2.1) + 1))))).tmod (((l_413.length + 1) : Nat) : Int)).toNat) ((0 : Int), (0 : Int), (0 : Int), ([] : List Byte), false)).2.2.2.1, false)).length = l_413.length := List.length_set
                          replace ho495 : LO (D93.at L) [] al_413 pl_413 l_413.length cl_413 F495 (l_413.set (((max ((script1.getD i_414 ((0 : Int), (0 : Int), (0 : Int), (0 : Int), ([] : List Byte))).2.1) (w64 (-(w64 (((script1.getD i_414 ((0 : Int), (0 : Int), (0 : Int), (0 : Int), ([] : List Byte))).2.1) + 1))))).tmod (((l_413.length + 1) : Nat) : Int)).toNat) ((l_413.getD (((max ((script1.getD i_414 ((0 : Int), (0 : Int), (0 : Int), (0 : Int), ([] : List Byte))).2.1) (w64 (-(w64 (((script1.getD i_414 ((0 : Int), (0 : Int), (0 : Int), (0 : Int), ([] : List Byte))).2.1) + 1))))).tmod (((l_413.length + 1) : Nat) : Int)).toNat) ((0 : Int), (0 : Int), (0 : Int), ([] : List Byte), false)).1, (l_413.getD (((max ((script1.getD i_414 ((0 : Int), (0 : Int), (0 : Int), (0 : Int), ([] : List Byte))).2.1) (w64 (-(w64 (((script1.getD i_414 ((0 : Int), (0 : Int), (0 : Int), (0 : Int), ([] : List Byte))).2.1) + 1))))).tmod (((l_413.length + 1) : Nat) : Int)).toNat) ((0 : Int), (0 : Int), (0 : Int), ([] : List Byte), false)).2.1, (l_413.getD (((max ((script1.getD i_414 ((0 : Int), (0 : Int), (0 : Int), (0 : Int), ([] : List Byte))).2.1) (w64 (-(w64 (((script1.getD i_414 ((0 : Int), (0 : Int), (0 : Int), (0 : Int), ([] : List Byte))).2.1) + 1))))).tmod (((l_413.length + 1) : Nat) : Int)).toNat) ((0 : Int), (0 : Int), (0 : Int), ([] : List Byte), false)).2.2.1, (l_413.getD (((max ((script1.getD i_414 ((0 : Int), (0 : Int), (0 : Int), (0 : Int), ([] : List Byte))).2.1) (w64 (-(w64 (((script1.getD i_414 ((0 : Int), (0 : Int), (0 : Int), (0 : Int), ([] : List Byte))).2.1) + 1))))).tmod (((l_413.length + 1) : Nat) : Int)).toNat) ((0 : Int), (0 : Int), (0 : Int), ([] : List Byte), false)).2.2.2.1, false)) := ho495
                          refine Plan.nil ?_
                          refine blockR_norm ?_
                          refine blockR_norm ?_
                          refine hK431 _ _ ?_; clear hK431
                          refine W.regionT [(0, true), (1, true), (2, true)] (by kernel_rfl) ?_
                          refine Plan.move_int rfl rfl ?_
                          refine Plan.addN (a := i_414) (b := 1) rfl rfl rfl (by omega) ?_
                          refine Plan.assign_int rfl rfl ?_
                          refine Plan.nil ?_
                          have h496 := St.pickT (C := [_, _, _, _, _, _, _, _, _, _]) h495 [9, 0, 1, 2, 3] (by decide)
                          simp only [pick, List.filterMap_cons, List.filterMap_nil, List.getElem?_cons_zero, List.getElem?_cons_succ, List.cons_append, List.nil_append] at h496
                          obtain ⟨CF497, hx497, hy497⟩ := hFj419
                          exact iterR_norm ⟨_, hR, CF497, L, hx497, L, rfl, l_413.length, al_413, pl_413, cl_413, F495, (EnvHas.cons rfl (EnvHas.cons rfl (EnvHas.cons rfl (EnvHas.cons rfl (EnvHas.cons rfl EnvHas.nil))))), h496, ho495⟩
                        ·
                          replace hR := ifF hR hc493
                          refine W.condF (congrArg Value.bool (Bool.eq_false_iff.2 hc493)) ?_
                          refine W.skip ?_
                          refine blockR_norm ?_
                          refine blockR_norm ?_
                          refine hK431 _ _ ?_; clear hK431
                          refine W.regionT [(0, true), (1, true), (2, true)] (by kernel_rfl) ?_
                          refine Plan.move_int rfl rfl ?_
                          refine Plan.addN (a := i_414) (b := 1) rfl rfl rfl (by omega) ?_
                          refine Plan.assign_int rfl rfl ?_
                          refine Plan.nil ?_
                          have h498 := St.pickT (C := [_, _, _, _, _, _, _, _, _, _]) h487 [9, 0, 1, 2, 3] (by decide)
                          simp only [pick, List.filterMap_cons, List.filterMap_nil, List.getElem?_cons_zero, List.getElem?_cons_succ, List.cons_append, List.nil_append] at h498
                          obtain ⟨CF499, hx499, hy499⟩ := hFj419
                          exact iterR_norm ⟨_, hR, CF499, L, hx499, L, rfl, l_413.length, al_413, pl_413, cl_413, Fl_413, (EnvHas.cons rfl (EnvHas.cons rfl (EnvHas.cons rfl (EnvHas.cons rfl (EnvHas.cons rfl EnvHas.nil))))), h498, ho485⟩
                    ·
                      replace hR := ifF hR hc474
                      refine W.condF (congrArg Value.bool (decide_eq_false hc474)) ?_
                      refine W.seq_k fun K500 hK500 => ?_
                      refine W.regionT [(0, true), (1, true)] (by kernel_rfl) ?_
                      refine Plan.cmpP (a := ((script1.getD i_414 ((0 : Int), (0 : Int), (0 : Int), (0 : Int), ([] : List Byte))).1 : Int)) (b := (4 : Int)) (p := (script1.getD i_414 ((0 : Int), (0 : Int), (0 : Int), (0 : Int), ([] : List Byte))).1 = 4) rfl rfl rfl rfl icmp_eq ?_
                      refine Plan.assign_bool rfl rfl ?_
                      refine Plan.nil ?_
                      refine hK500 _ _ ?_; clear hK500
                      by_cases hc501 : (script1.getD i_414 ((0 : Int), (0 : Int), (0 : Int), (0 : Int), ([] : List Byte))).1 = 4
                      ·
                        replace hR := ifT hR hc501
                        refine W.condT (congrArg Value.bool (decide_eq_true hc501)) ?_
                        refine W.seq_k fun K502 hK502 => ?_
                        refine W.regionT [(0, true), (1, true), (2, false), (3, true), (4, true), (5, true), (6, true), (7, true)] (by kernel_rfl) ?_
                        refine Plan.move_ptr rfl rfl ?_
                        refine Plan.move_int rfl rfl ?_
                        have h503 := St.pickT (C := [_, _, _, _, _, _, _, _, _, _]) h449 [6, 7, 8, 9, 0, 1, 2, 3, 4, 5] (by decide)
                        simp only [pick, List.filterMap_cons, List.filterMap_nil, List.getElem?_cons_zero, List.getElem?_cons_succ, List.cons_append, List.nil_append] at h503
                        obtain ⟨x_505, x_506, x_507, x_508, hr504, hR⟩ := hR
                        refine Plan.call (vs := [.pointer (some ⟨b0_24, 0, none⟩), .int .i64 ((max ((script1.getD i_414 ((0 : Int), (0 : Int), (0 : Int), (0 : Int), ([] : List Byte))).2.1) (w64 (-(w64 (((script1.getD i_414 ((0 : Int), (0 : Int), (0 : Int), (0 : Int), ([] : List Byte))).2.1) + 1))))).tmod (((l_413.length + 1) : Nat) : Int))]) rfl FNetIsBag.call31 rfl (net_Net_Copy_ok (w0 := w0) (LP := L) (by exact fun r hr => List.mem_append_right [_, _, _, _, _, _] ((fun _ h => h) r hr)) hr504 (show St B (w0.on [mapR kvI (D60.at L) [] mw0_2_25 mp412]) _ _ from h503)) ?_
                        rintro _ w509 ⟨C509, rfl, h509⟩
                        replace h509 : St B (w0.on [mapR kvI (D60.at (C509 ++ L)) [] mw0_2_25 x_508]) _ _ := h509
                        replace h509 := St.pool (N := [_, _, _, _]) (R := [_, _, _, _, _, _]) h509
                        obtain ⟨L, hL510⟩ : ∃ X, X = C509 ++ L := ⟨_, rfl⟩
                        have h510 := St.re (N := [_, _, _, _, _, _, _, _, _, _]) hL510 h509
                        simp only [List.cons_append, List.nil_append] at h510
                        replace hFr : Fr2 _ _ L L := hFr.step hL510 hL510
                        replace hFj419 : Fr2 _ _ L L := hFj419.step hL510 hL510
                        obtain ⟨ix511, hv511⟩ : ∃ i, LV (D89.at L) L i ascript1 script1.length cscript1 script1 := ⟨_, by rw [hL510]; exact (LV.grow D89_lifts (fun r hr => List.mem_append_right _ hr) hv423).app _⟩
                        obtain ⟨ix512, hv512⟩ : ∃ i, Bx L i ((b434).1) (((script1.getD i_414 ((0 : Int), (0 : Int), (0 : Int), (0 : Int), ([] : List Byte))).2.2.2.2).length) ((b434).2) ((script1.getD i_414 ((0 : Int), (0 : Int), (0 : Int), (0 : Int), ([] : List Byte))).2.2.2.2) := ⟨_, by rw [hL510]; exact hv434_4.app _⟩
                        have ho513 : LO (D93.at L) [] al_413 pl_413 ((l_413).length) cl_413 Fl_413 l_413 := by rw [hL510]; exact LO.grow D93_lifts (fun r hr => List.mem_append_right _ hr) hl_413
                        have h515 := St.eqM (A' := L) h510 (i := 0) rfl hL510
                        simp only [List.set_cons_zero, List.set_cons_succ] at h515
                        refine ⟨_, rfl, .inl ⟨PIn.keep PIn.nil h515, ?_⟩⟩
                        refine Plan.move_tuple rfl rfl ?_
                        refine Plan.extract_int rfl rfl rfl ?_
                        refine Plan.extract_int rfl rfl rfl ?_
                        refine Plan.assign_int rfl rfl ?_
                        refine Plan.assign_int rfl rfl ?_
                        refine Plan.nil ?_
                        refine hK502 _ _ ?_; clear hK502
                        refine W.seq_k fun K516 hK516 => ?_
                        obtain ⟨ok526, t523, t524, t525, hX526, hR0526⟩ := hR
                        refine W.cutN (fun e w => ∃ y_t523 : Bool, ∃ y_t524 : Bool, ∃ y_t525 : Bool, (ok526 = true ∧ t523 = y_t523 ∧ t524 = y_t524 ∧ t525 = y_t525) ∧ EnvHas e [(0, .slice ascript1 script1.length cscript1), (1, .bool back2), (5, .pointer (some ⟨b0_24, 0, none⟩)), (8, .slice al_413 l_413.length cl_413), (9, VN i_414), (11, .int .i64 ((max ((script1.getD i_414 ((0 : Int), (0 : Int), (0 : Int), (0 : Int), ([] : List Byte))).2.1) (w64 (-(w64 (((script1.getD i_414 ((0 : Int), (0 : Int), (0 : Int), (0 : Int), ([] : List Byte))).2.1) + 1))))).tmod (((l_413.length + 1) : Nat) : Int))), (12, .bool here444), (13, .int .i64 x_505), (54, VN i_414), (55, .bool (decide (i_414 < 200))), (161, .bool y_t523), (162, .bool y_t524), (167, .bool y_t525)] ∧ St B (w0.on [mapR kvI (D60.at L) [] mw0_2_25 x_508]) (⟨some b0_24, 0, 1, fun _ => .int .i64 x_7, true⟩ :: ⟨some b0_24, 1, 1, fun _ => .int .i64 x_8, true⟩ :: ⟨some b0_24, 2, 1, fun _ => .map (some mw0_2_25), true⟩ :: ⟨some b0_24, 3, 1, fun _ => .int .i64 x_507, true⟩ :: ⟨pl_413, 0, cl_413 * 5, Fl_413, true⟩ :: L) w) ?_ ?_
                        ·
                          replace hR := hX526
                          refine W.seq_k fun K527 hK527 => ?_
                          refine W.regionT [(0, true), (1, true), (2, true), (3, true), (4, true), (5, true), (6, true), (7, true), (8, true), (9, true), (10, true), (11, true), (12, true)] (by kernel_rfl) ?_
                          refine Plan.move_int rfl rfl ?_
                          refine Plan.cmpP (a := (((x_506 : Nat) : Int) : Int)) (b := (0 : Int)) (p := x_506 = 0) rfl rfl rfl rfl icmp_eqN ?_
                          refine Plan.move_bool rfl rfl ?_
                          by_cases hc528 : ((decide (x_506 = 0)) != here444) = true
                          ·
                            replace hR := ifT hR hc528
                            refine Plan.neBoolV (v := true) FNetIsBag.bool4 rfl rfl rfl hc528 ?_
                            refine Plan.move_bool rfl rfl ?_
                            refine Plan.passed rfl ?_
                            refine Plan.passed rfl ?_
                            refine Plan.passed rfl ?_
                            refine Plan.passed rfl ?_
                            refine Plan.passed rfl ?_
                            refine Plan.passed rfl ?_
                            refine Plan.passed rfl ?_
                            refine Plan.pickTb rfl rfl rfl ?_
                            refine Plan.nil ?_
                            refine hK527 _ _ ?_; clear hK527
                            refine W.condT rfl ?_
                            refine W.seq_k fun K529 hK529 => ?_
                            refine W.regionT [(0, true)] (by kernel_rfl) ?_
                            refine Plan.assign_bool rfl rfl ?_
                            refine Plan.nil ?_
                            refine hK529 _ _ ?_; clear hK529
                            refine W.ret (thenR_ret (thenR_ret (blockR_ret (blockR_ret (thenR_ret (iterR_ret (blockR_ret (thenR_ret (thenR_ret (finR_ret ?_))))))))))
                            have h530 := St.pickT (C := [_, _, _, _, _, _, _, _, _, _]) h515 [] (by decide)
                            simp only [pick, List.filterMap_cons, List.filterMap_nil, List.getElem?_cons_zero, List.getElem?_cons_succ, List.cons_append, List.nil_append] at h530
                            have h531 : St B w0 _ _ := St.mpick (N := [mapR kvI (D60.at L) [] mw0_2_25 x_508]) (N' := []) h530 [] (by decide) rfl
                            replace hR := hR.2
                            replace hR := hR.2
                            subst r
                            refine RetOk.mk (.tmp_bool rfl .nil) ?_
                            obtain ⟨CF, hx1, hx2⟩ := hFr
                            subst hx1
                            have hdr := St.dropC (N := []) h531
                            exact ⟨rfl, hdr⟩
                          ·
                            replace hR := ifF hR hc528
                            refine Plan.neBoolV (v := false) FNetIsBag.bool4 rfl rfl rfl (Bool.eq_false_iff.2 hc528) ?_
                            refine Plan.move_bool rfl rfl ?_
                            by_cases hc532 : here444 = true
                            ·
                              replace hR := ifT hR hc532
                              refine Plan.move_bool (b := true) rfl (congrArg Value.bool hc532) ?_
                              refine Plan.move_bool rfl rfl ?_
                              refine Plan.move_int rfl rfl ?_
                              refine Plan.move_slice rfl rfl ?_
                              refine Plan.len FNetIsBag.isl94 rfl rfl ?_
                              refine Plan.cmpP (a := (x_505 : Int)) (b := (((l_413.length : Nat) : Int) : Int)) (p := x_505 ≠ ((l_413.length : Nat) : Int)) rfl rfl rfl rfl icmp_ne ?_
                              refine Plan.pickTb rfl rfl rfl ?_
                              refine Plan.pickFb rfl rfl rfl ?_
                              refine Plan.nil ?_
                              refine hK527 _ _ ?_; clear hK527
                              by_cases hc533 : x_505 ≠ ((l_413.length : Nat) : Int)
                              ·
                                replace hR := ifT hR hc533
                                refine W.condT (congrArg Value.bool (decide_eq_true hc533)) ?_
                                refine W.seq_k fun K534 hK534 => ?_
                                refine W.regionT [(0, true)] (by kernel_rfl) ?_
                                refine Plan.assign_bool rfl rfl ?_
                                refine Plan.nil ?_
                                refine hK534 _ _ ?_; clear hK534
                                refine W.ret (thenR_ret (thenR_ret (blockR_ret (blockR_ret (thenR_ret (iterR_ret (blockR_ret (thenR_ret (thenR_ret (finR_ret ?_))))))))))
                                have h535 := St.pickT (C := [_, _, _, _, _, _, _, _, _, _]) h515 [] (by decide)
                                simp only [pick, List.filterMap_cons, List.filterMap_nil, List.getElem?_cons_zero, List.getElem?_cons_succ, List.cons_append, List.nil_append] at h535
                                have h536 : St B w0 _ _ := St.mpick (N := [mapR kvI (D60.at L) [] mw0_2_25 x_508]) (N' := []) h535 [] (by decide) rfl
                                replace hR := hR.2
                                replace hR := hR.2
                                subst r
                                refine RetOk.mk (.tmp_bool rfl .nil) ?_
                                obtain ⟨CF, hx1, hx2⟩ := hFr
                                subst hx1
                                have hdr := St.dropC (N := []) h536
                                exact ⟨rfl, hdr⟩
                              ·
                                replace hR := ifF hR hc533
                                refine W.condF (congrArg Value.bool (decide_eq_false hc533)) ?_
                                refine W.skip ?_
                                have h537 := St.pickT (C := [_, _, _, _, _, _, _, _, _, _]) h515 [0, 1, 2, 3, 9] (by decide)
                                simp only [pick, List.filterMap_cons, List.filterMap_nil, List.getElem?_cons_zero, List.getElem?_cons_succ, List.cons_append, List.nil_append] at h537
                                exact ⟨true, true, (decide (x_505 ≠ ((l_413.length : Nat) : Int))), hR, (EnvHas.cons rfl (EnvHas.cons rfl (EnvHas.cons rfl (EnvHas.cons rfl (EnvHas.cons rfl (EnvHas.cons rfl (EnvHas.cons rfl (EnvHas.cons rfl (EnvHas.cons rfl (EnvHas.cons rfl (EnvHas.cons rfl (EnvHas.cons rfl (EnvHas.cons rfl EnvHas.nil))))))))))))), h537⟩
                            ·
                              replace hR := ifF hR hc532
                              refine Plan.move_bool (b := false) rfl (congrArg Value.bool (Bool.eq_false_iff.2 hc532)) ?_
                              refine Plan.move_bool rfl rfl ?_
                              refine Plan.passed rfl ?_
                              refine Plan.passed rfl ?_
                              refine Plan.passed rfl ?_
                              refine Plan.passed rfl ?_
                              refine Plan.pickFb rfl rfl rfl ?_
                              refine Plan.pickFb rfl rfl rfl ?_
                              refine Plan.nil ?_
                              refine hK527 _ _ ?_; clear hK527
                              refine W.condF rfl ?_
                              refine W.skip ?_
                              have h538 := St.pickT (C := [_, _, _, _, _, _, _, _, _, _]) h515 [0, 1, 2, 3, 9] (by decide)
                              simp only [pick, List.filterMap_cons, List.filterMap_nil, List.getElem?_cons_zero, List.getElem?_cons_succ, List.cons_append, List.nil_append] at h538
                              exact ⟨false, false, false, hR, (EnvHas.cons rfl (EnvHas.cons rfl (EnvHas.cons rfl (EnvHas.cons rfl (EnvHas.cons rfl (EnvHas.cons rfl (EnvHas.cons rfl (EnvHas.cons rfl (EnvHas.cons rfl (EnvHas.cons rfl (EnvHas.cons rfl (EnvHas.cons rfl (EnvHas.cons rfl EnvHas.nil))))))))))))), h538⟩
                        ·
                          rintro ev539 wl539 ⟨y_t523, y_t524, y_t525, ⟨hy539_0, hy539_1, hy539_2, hy539_3⟩, he539, h539⟩
                          subst hy539_1
                          subst hy539_2
                          subst hy539_3
                          obtain ⟨ev539, rfl⟩ := he539.open
                          replace hR := hR0526 hy539_0
                          refine hK516 _ _ ?_; clear hK516
                          refine W.seq_k fun K540 hK540 => ?_
                          refine W.regionT [(0, true)] (by kernel_rfl) ?_
                          refine Plan.move_bool rfl rfl ?_
                          refine Plan.nil ?_
                          refine hK540 _ _ ?_; clear hK540
                          by_cases hc541 : here444 = true
                          ·
                            replace hR := ifT hR hc541
                            refine W.condT (congrArg Value.bool hc541) ?_
                            refine W.seq_k fun K542 hK542 => ?_
                            refine W.regionT [(0, true), (1, true), (2, true), (3, true), (4, false), (5, false)] (by kernel_rfl) ?_
                            refine Plan.move_slice rfl rfl ?_
                            refine Plan.move_int rfl rfl ?_
                            obtain ⟨hc543, hR⟩ := hR
                            refine Plan.idxLVS (D := (D93.at L)) (j := ((max ((script1.getD i_414 ((0 : Int), (0 : Int), (0 : Int), (0 : Int), ([] : List Byte))).2.1) (w64 (-(w64 (((script1.getD i_414 ((0 : Int), (0 : Int), (0 : Int), (0 : Int), ([] : List Byte))).2.1) + 1))))).tmod (((l_413.length + 1) : Nat) : Int)).toNat) h539 (LO.lvf EL.at_flat ho513 4 rfl) FNetIsBag.sl94 rfl rfl (congrArg (Value.int .i64) (Int.toNat_of_nonneg hc543.1).symm) (toNat_lt hc543.1 hc543.2) ?_
                            refine Plan.loadLV (D := (D93.at L)) (X := l_413) (j := ((max ((script1.getD i_414 ((0 : Int), (0 : Int), (0 : Int), (0 : Int), ([] : List Byte))).2.1) (w64 (-(w64 (((script1.getD i_414 ((0 : Int), (0 : Int), (0 : Int), (0 : Int), ([] : List Byte))).2.1) + 1))))).tmod (((l_413.length + 1) : Nat) : Int)).toNat) (sz := 5) h539 ((0 : Int), (0 : Int), (0 : Int), ([] : List Byte), false) (LO.lvf EL.at_flat ho513 4 rfl) rfl rfl (toNat_lt hc543.1 hc543.2) rfl FNetIsBag.agg93 fun b544 r544 hs544 hr544 => ?_
                            obtain ⟨i544_3, hv544_3⟩ := hs544
                            refine Plan.alloc h539 rfl FNetIsBag.z93 (PIn.cons 4 hr544 PIn.nil) fun b545 w545 hb545 h545 => ?_
                            simp only [rngs, Nat.zero_add, Nat.reduceAdd, List.cons_append, List.nil_append] at h545
                            refine Plan.storeP (ps := [(1, fun _ => .int .i64 ((l_413.getD (((max ((script1.getD i_414 ((0 : Int), (0 : Int), (0 : Int), (0 : Int), ([] : List Byte))).2.1) (w64 (-(w64 (((script1.getD i_414 ((0 : Int), (0 : Int), (0 : Int), (0 : Int), ([] : List Byte))).2.1) + 1))))).tmod (((l_413.length + 1) : Nat) : Int)).toNat) ((0 : Int), (0 : Int), (0 : Int), ([] : List Byte), false)).1)), (1, fun _ => .int .i64 ((l_413.getD (((max ((script1.getD i_414 ((0 : Int), (0 : Int), (0 : Int), (0 : Int), ([] : List Byte))).2.1) (w64 (-(w64 (((script1.getD i_414 ((0 : Int), (0 : Int), (0 : Int), (0 : Int), ([] : List Byte))).2.1) + 1))))).tmod (((l_413.length + 1) : Nat) : Int)).toNat) ((0 : Int), (0 : Int), (0 : Int), ([] : List Byte), false)).2.1)), (1, fun _ => .int .i64 ((l_413.getD (((max ((script1.getD i_414 ((0 : Int), (0 : Int), (0 : Int), (0 : Int), ([] : List Byte))).2.1) (w64 (-(w64 (((script1.getD i_414 ((0 : Int), (0 : Int), (0 : Int), (0 : Int), ([] : List Byte))).2.1) + 1))))).tmod (((l_413.length + 1) : Nat) : Int)).toNat) ((0 : Int), (0 : Int), (0 : Int), ([] : List Byte), false)).2.2.1)), (1, fun _ => .slice ((b544).1) (((l_413.getD (((max ((script1.getD i_414 ((0 : Int), (0 : Int), (0 : Int), (0 : Int), ([] : List Byte))).2.1) (w64 (-(w64 (((script1.getD i_414 ((0 : Int), (0 : Int), (0 : Int), (0 : Int), ([] : List Byte))).2.1) + 1))))).tmod (((l_413.length + 1) : Nat) : Int)).toNat) ((0 : Int), (0 : Int), (0 : Int), ([] : List Byte), false)).2.2.2.1).length) ((b544).2)), (1, fun _ => .bool ((l_413.getD (((max ((script1.getD i_414 ((0 : Int), (0 : Int), (0 : Int), (0 : Int), ([] : List Byte))).2.1) (w64 (-(w64 (((script1.getD i_414 ((0 : Int), (0 : Int), (0 : Int), (0 : Int), ([] : List Byte))).2.1) + 1))))).tmod (((l_413.length + 1) : Nat) : Int)).toNat) ((0 : Int), (0 : Int), (0 : Int), ([] : List Byte), false)).2.2.2.2))]) h545 rfl rfl rfl (.cons 0 rfl (.cons 1 rfl (.cons 2 rfl (.cons 3 rfl (.cons 4 rfl .nil))))) ⟨fun _ _ => rfl, fun _ _ => rfl, fun _ _ => rfl, fun _ _ => rfl, fun _ _ => rfl, trivial⟩ FNetIsBag.sz93 (EffO.wait rfl) fun w546 h546 => ?_
                            simp only [List.cons_append, List.nil_append, List.set_cons_zero, List.set_cons_succ] at h546
                            refine Plan.nil ?_
                            refine hK542 _ _ ?_; clear hK542
                            refine W.seq_k fun K547 hK547 => ?_
                            refine W.regionT [(0, true), (1, true), (2, true), (3, false)] (by kernel_rfl) ?_
                            refine Plan.move_int rfl rfl ?_
                            refine Plan.fieldAddr0 FNetIsBag.fld93_0 rfl rfl ?_
                            refine Plan.fieldAddr0 FNetIsBag.fld60_0 rfl rfl ?_
                            refine Plan.storeC_int h546 0 rfl rfl rfl rfl FNetIsBag.sz3 rfl fun w548 h548 => ?_
                            simp only [List.cons_append, List.nil_append, List.set_cons_zero, List.set_cons_succ] at h548
                            refine Plan.nil ?_
                            refine hK547 _ _ ?_; clear hK547
                            refine W.regionT [(0, true), (1, true), (2, false), (3, false), (4, true)] (by kernel_rfl) ?_
                            refine Plan.move_slice rfl rfl ?_
                            refine Plan.loadA h548 rfl rfl (.cons 0 rfl (.cons 1 rfl (.cons 2 rfl (.cons 3 rfl (.cons 4 rfl .nil))))) FNetIsBag.agg93 ?_
                            refine Plan.buildLO (D := (D93.at L)) (sz := 5) h548 [(((b544).1, (b544).2), ((x_505, (l_413.getD (((max ((script1.getD i_414 ((0 : Int), (0 : Int), (0 : Int), (0 : Int), ([] : List Byte))).2.1) (w64 (-(w64 (((script1.getD i_414 ((0 : Int), (0 : Int), (0 : Int), (0 : Int), ([] : List Byte))).2.1) + 1))))).tmod (((l_413.length + 1) : Nat) : Int)).toNat) ((0 : Int), (0 : Int), (0 : Int), ([] : List Byte), false)).2.1, (l_413.getD (((max ((script1.getD i_414 ((0 : Int), (0 : Int), (0 : Int), (0 : Int), ([] : List Byte))).2.1) (w64 (-(w64 (((script1.getD i_414 ((0 : Int), (0 : Int), (0 : Int), (0 : Int), ([] : List Byte))).2.1) + 1))))).tmod (((l_413.length + 1) : Nat) : Int)).toNat) ((0 : Int), (0 : Int), (0 : Int), ([] : List Byte), false)).2.2.1, ((l_413.getD (((max ((script1.getD i_414 ((0 : Int), (0 : Int), (0 : Int), (0 : Int), ([] : List Byte))).2.1) (w64 (-(w64 (((script1.getD i_414 ((0 : Int), (0 : Int), (0 : Int), (0 : Int), ([] : List Byte))).2.1) + 1))))).tmod (((l_413.length + 1) : Nat) : Int)).toNat) ((0 : Int), (0 : Int), (0 : Int), ([] : List Byte), false)).2.2.2.1), (l_413.getD (((max ((script1.getD i_414 ((0 : Int), (0 : Int), (0 : Int), (0 : Int), ([] : List Byte))).2.1) (w64 (-(w64 (((script1.getD i_414 ((0 : Int), (0 : Int), (0 : Int), (0 : Int), ([] : List Byte))).2.1) + 1))))).tmod (((l_413.length + 1) : Nat) : Int)).toNat) ((0 : Int), (0 : Int), (0 : Int), ([] : List Byte), false)).2.2.2.2) : (Int × Int × Int × (List Byte) × Bool)))] FNetIsBag.slu94 FNetIsBag.sz93 FNetIsBag.zv93 (by decide) (by decide) rfl rfl rfl rfl (by exact (List.forall_mem_cons.2 ⟨⟨_, hv544_3⟩, (fun _ h => nomatch h)⟩)) (EffO.wait rfl) fun b550 w550 F550 hb550 ho550 h550 => ?_
                            replace ho550 : LO (D93.at L) [] (some ⟨b550, 0, none⟩) (some b550) ([(x_505, (l_413.getD (((max ((script1.getD i_414 ((0 : Int), (0 : Int), (0 : Int), (0 : Int), ([] : List Byte))).2.1) (w64 (-(w64 (((script1.getD i_414 ((0 : Int), (0 : Int), (0 : Int), (0 : Int), ([] : List Byte))).2.1) + 1))))).tmod (((l_413.length + 1) : Nat) : Int)).toNat) ((0 : Int), (0 : Int), (0 : Int), ([] : List Byte), false)).2.1, (l_413.getD (((max ((script1.getD i_414 ((0 : Int), (0 : Int), (0 : Int), (0 : Int), ([] : List Byte))).2.1) (w64 (-(w64 (((script1.getD i_414 ((0 : Int), (0 : Int), (0 : Int), (0 : Int), ([] : List Byte))).2.1) + 1))))).tmod (((l_413.length + 1) : Nat) : Int)).toNat) ((0 : Int), (0 : Int), (0 : Int), ([] : List Byte), false)).2.2.1, ((l_413.getD (((max ((script1.getD i_414 ((0 : Int), (0 : Int), (0 : Int), (0 : Int), ([] : List Byte))).2.1) (w64 (-(w64 (((script1.getD i_414 ((0 : Int), (0 : Int), (0 : Int), (0 : Int), ([] : List Byte))).2.1) + 1))))).tmod (((l_413.length + 1) : Nat) : Int)).toNat) ((0 : Int), (0 : Int), (0 : Int), ([] : List Byte), false)).2.2.2.1), (l_413.getD (((max ((script1.getD i_414 ((0 : Int), (0 : Int), (0 : Int), (0 : Int), ([] : List Byte))).2.1) (w64 (-(w64 (((script1.getD i_414 ((0 : Int), (0 : Int), (0 : Int), (0 : Int), ([] : List Byte))).2.1) + 1))))).tmod (((l_413.length + 1) : Nat) : Int)).toNat) ((0 : Int), (0 : Int), (0 : Int), ([] : List Byte), false)).2.2.2.2)] : List (Int × Int × Int × (List Byte) × Bool)).length 1 F550 ([(x_505, (l_413.getD (((max ((script1.getD i_414 ((0 : Int), (0 : Int), (0 : Int), (0 : Int), ([] : List Byte))).2.1) (w64 (-(w64 (((script1.getD i_414 ((0 : Int), (0 : Int), (0 : Int), (0 : Int), ([] : List Byte))).2.1) + 1))))).tmod (((l_413.length + 1) : Nat) : Int)).toNat) ((0 : Int), (0 : Int), (0 : Int), ([] : List Byte), false)).2.1, (l_413.getD (((max ((script1.getD i_414 ((0 : Int), (0 : Int), (0 : Int), (0 : Int), ([] : List Byte))).2.1) (w64 (-(w64 (((script1.getD i_414 ((0 : Int), (0 : Int), (0 : Int), (0 : Int), ([] : List Byte))).2.1) + 1))))).tmod (((l_413.length + 1) : Nat) : Int)).toNat) ((0 : Int), (0 : Int), (0 : Int), ([] : List Byte), false)).2.2.1, ((l_413.getD (((max ((script1.getD i_414 ((0 : Int), (0 : Int), (0 : Int), (0 : Int), ([] : List Byte))).2.1) (w64 (-(w64 (((script1.getD i_414 ((0 : Int), (0 : Int), (0 : Int), (0 : Int), ([] : List Byte))).2.1) + 1))))).tmod (((l_413.length + 1) : Nat) : Int)).toNat) ((0 : Int), (0 : Int), (0 : Int), ([] : List Byte), false)).2.2.2.1), (l_413.getD (((max ((script1.getD i_414 ((0 : Int), (0 : Int), (0 : Int), (0 : Int), ([] : List Byte))).2.1) (w64 (-(w64 (((script1.getD i_414 ((0 : Int), (0 : Int), (0 : Int), (0 : Int), ([] : List Byte))).2.1) + 1))))).tmod (((l_413.length + 1) : Nat) : Int)).toNat) ((0 : Int), (0 : Int), (0 : Int), ([] : List Byte), false)).2.2.2.2)] : List (Int × Int × Int × (List Byte) × Bool)) := ho550.re (fun _ _ h => h)
                            obtain ⟨hc552, hR⟩ := hR
                            refine Plan.appendLO (D := (D93.at L)) (X := l_413) (Y := ([(x_505, (l_413.getD (((max ((script1.getD i_414 ((0 : Int), (0 : Int), (0 : Int), (0 : Int), ([] : List Byte))).2.1) (w64 (-(w64 (((script1.getD i_414 ((0 : Int), (0 : Int), (0 : Int), (0 : Int), ([] : List Byte))).2.1) + 1))))).tmod (((l_413.length + 1) : Nat) : Int)).toNat) ((0 : Int), (0 : Int), (0 : Int), ([] : List Byte), false)).2.1, (l_413.getD (((max ((script1.getD i_414 ((0 : Int), (0 : Int), (0 : Int), (0 : Int), ([] : List Byte))).2.1) (w64 (-(w64 (((script1.getD i_414 ((0 : Int), (0 : Int), (0 : Int), (0 : Int), ([] : List Byte))).2.1) + 1))))).tmod (((l_413.length + 1) : Nat) : Int)).toNat) ((0 : Int), (0 : Int), (0 : Int), ([] : List Byte), false)).2.2.1, ((l_413.getD (((max ((script1.getD i_414 ((0 : Int), (0 : Int), (0 : Int), (0 : Int), ([] : List Byte))).2.1) (w64 (-(w64 (((script1.getD i_414 ((0 : Int), (0 : Int), (0 : Int), (0 : Int), ([] : List Byte))).2.1) + 1))))).tmod (((l_413.length + 1) : Nat) : Int)).toNat) ((0 : Int), (0 : Int), (0 : Int), ([] : List Byte), false)).2.2.2.1), (l_413.getD (((max ((script1.getD i_414 ((0 : Int), (0 : Int), (0 : Int), (0 : Int), ([] : List Byte))).2.1) (w64 (-(w64 (((script1.getD i_414 ((0 : Int), (0 : Int), (0 : Int), (0 : Int), ([] : List Byte))).2.1) + 1))))).tmod (((l_413.length + 1) : Nat) : Int)).toNat) ((0 : Int), (0 : Int), (0 : Int), ([] : List Byte), false)).2.2.2.2)] : List (Int × Int × Int × (List Byte) × Bool))) (sz := 5) h550 (none, 0) ((0 : Int), (0 : Int), (0 : Int), ([] : List Byte), false) 10 ho513 rfl FNetIsBag.el94 rfl FNetIsBag.slu94 rfl rfl rfl rfl (LO.lvf EL.at_flat ho550 0 rfl) (fun _ _ h => h) hc552.1 hc552.2 (fun _ => EffO.keep PIn.nil) fun a551 pb551 cap551 F551 w551 ho551 h551 => ?_
                            simp only [List.cons_append, List.nil_append, List.set_cons_zero, List.set_cons_succ] at h551
                            replace ho551 : LO (D93.at L) [] a551 pb551 (l_413 ++ ([(x_505, (l_413.getD (((max ((script1.getD i_414 ((0 : Int), (0 : Int), (0 : Int), (0 : Int), ([] : List Byte))).2.1) (w64 (-(w64 (((script1.getD i_414 ((0 : Int), (0 : Int), (0 : Int), (0 : Int), ([] : List Byte))).2.1) + 1))))).tmod (((l_413.length + 1) : Nat) : Int)).toNat) ((0 : Int), (0 : Int), (0 : Int), ([] : List Byte), false)).2.1, (l_413.getD (((max ((script1.getD i_414 ((0 : Int), (0 : Int), (0 : Int), (0 : Int), ([] : List Byte))).2.1) (w64 (-(w64 (((script1.getD i_414 ((0 : Int), (0 : Int), (0 : Int), (0 : Int), ([] : List Byte))).2.1) + 1))))).tmod (((l_413.length + 1) : Nat) : Int)).toNat) ((0 : Int), (0 : Int), (0 : Int), ([] : List Byte), false)).2.2.1, ((l_413.getD (((max ((script1.getD i_414 ((0 : Int), (0 : Int), (0 : Int), (0 : Int), ([] : List Byte))).2.1) (w64 (-(w64 (((script1.getD i_414 ((0 : Int), (0 : Int), (0 : Int), (0 : Int), ([] : List Byte))).2.1) + 1))))).tmod (((l_413.length + 1) : Nat) : Int)).toNat) ((0 : Int), (0 : Int), (0 : Int), ([] : List Byte), false)).2.2.2.1), (l_413.getD (((max ((script1.getD i_414 ((0 : Int), (0 : Int), (0 : Int), (0 : Int), ([] : List Byte))).2.1) (w64 (-(w64 (((script1.getD i_414 ((0 : Int), (0 : Int), (0 : Int), (0 : Int), ([] : List Byte))).2.1) + 1))))).tmod (((l_413.length + 1) : Nat) : Int)).toNat) ((0 : Int), (0 : Int), (0 : Int), ([] : List Byte), false)).2.2.2.2)] : List (Int × Int × Int × (List Byte) × Bool))).length cap551 F551 (l_413 ++ ([(x_505, (l_413.getD (((max ((script1.getD i_414 ((0 : Int), (0 : Int), (0 : Int), (0 : Int), ([] : List Byte))).2.1) (w64 (-(w64 (((script1.getD i_414 ((0 : Int), (0 : Int), (0 : Int), (0 : Int), ([] : List Byte))).2.1) + 1))))).tmod (((l_413.length + 1) : Nat) : Int)).toNat) ((0 : Int), (0 : Int), (0 : Int), ([] : List Byte), false)).2.1, (l_413.getD (((max ((script1.getD i_414 ((0 : Int), (0 : Int), (0 : Int), (0 : Int), ([] : List Byte))).2.1) (w64 (-(w64 (((script1.getD i_414 ((0 : Int), (0 : Int), (0 : Int), (0 : Int), ([] : List Byte))).2.1) + 1))))).tmod (((l_413.length + 1) : Nat) : Int)).toNat) ((0 : Int), (0 : Int), (0 : Int), ([] : List Byte), false)).2.2.1, ((l_413.getD (((max ((script1.getD i_414 ((0 : Int), (0 : Int), (0 : Int), (0 : Int), ([] : List Byte))).2.1) (w64 (-(w64 (((script1.getD i_414 ((0 : Int), (0 : Int), (0 : Int), (0 : Int), ([] : List Byte))).2.1) + 1))))).tmod (((l_413.length + 1) : Nat) : Int)).toNat) ((0 : Int), (0 : Int), (0 : Int), ([] : List Byte), false)).2.2.2.1), (l_413.getD (((max ((script1.getD i_414 ((0 : Int), (0 : Int), (0 : Int), (0 : Int), ([] : List Byte))).2.1) (w64 (-(w64 (((script1.getD i_414 ((0 : Int), (0 : Int), (0 : Int), (0 : Int), ([] : List Byte))).2.1) + 1))))).tmod (((l_413.length + 1) : Nat) : Int)).toNat) ((0 : Int), (0 : Int), (0 : Int), ([] : List Byte), false)).2.2.2.2)] : List (Int × Int × Int × (List Byte) × Bool))) := ho551.re (fun _ _ h => h)
                            refine Plan.assign_slice rfl rfl ?_
                            refine Plan.nil ?_
                            refine blockR_norm ?_
                            refine blockR_norm ?_
                            refine hK431 _ _ ?_; clear hK431
                            refine W.regionT [(0, true), (1, true), (2, true)] (by kernel_rfl) ?_
                            refine Plan.move_int rfl rfl ?_
                            refine Plan.addN (a := i_414) (b := 1) rfl rfl rfl (by omega) ?_
                            refine Plan.assign_int rfl rfl ?_
                            refine Plan.nil ?_
                            have h553 := St.pickT (C := [_, _, _, _, _, _, _, _, _, _, _]) h551 [10, 6, 7, 8, 9] (by decide)
                            simp only [pick, List.filterMap_cons, List.filterMap_nil, List.getElem?_cons_zero, List.getElem?_cons_succ, List.cons_append, List.nil_append] at h553
                            obtain ⟨CF554, hx554, hy554⟩ := hFj419
                            exact iterR_norm ⟨_, hR, CF554, L, hx554, L, rfl, (l_413 ++ ([(x_505, (l_413.getD (((max ((script1.getD i_414 ((0 : Int), (0 : Int), (0 : Int), (0 : Int), ([] : List Byte))).2.1) (w64 (-(w64 (((script1.getD i_414 ((0 : Int), (0 : Int), (0 : Int), (0 : Int), ([] : List Byte))).2.1) + 1))))).tmod (((l_413.length + 1) : Nat) : Int)).toNat) ((0 : Int), (0 : Int), (0 : Int), ([] : List Byte), false)).2.1, (l_413.getD (((max ((script1.getD i_414 ((0 : Int), (0 : Int), (0 : Int), (0 : Int), ([] : List Byte))).2.1) (w64 (-(w64 (((script1.getD i_414 ((0 : Int), (0 : Int), (0 : Int), (0 : Int), ([] : List Byte))).2.1) + 1))))).tmod (((l_413.length + 1) : Nat) : Int)).toNat) ((0 : Int), (0 : Int), (0 : Int), ([] : List Byte), false)).2.2.1, ((l_413.getD (((max ((script1.getD i_414 ((0 : Int), (0 : Int), (0 : Int), (0 : Int), ([] : List Byte))).2.1) (w64 (-(w64 (((script1.getD i_414 ((0 : Int), (0 : Int), (0 : Int), (0 : Int), ([] : List Byte))).2.1) + 1))))).tmod (((l_413.length + 1) : Nat) : Int)).toNat) ((0 : Int), (0 : Int), (0 : Int), ([] : List Byte), false)).2.2.2.1), (l_413.getD (((max ((script1.getD i_414 ((0 : Int), (0 : Int), (0 : Int), (0 : Int), ([] : List Byte))).2.1) (w64 (-(w64 (((script1.getD i_414 ((0 : Int), (0 : Int), (0 : Int), (0 : Int), ([] : List Byte))).2.1) + 1))))).tmod (((l_413.length + 1) : Nat) : Int)).toNat) ((0 : Int), (0 : Int), (0 : Int), ([] : List Byte), false)).2.2.2.2)] : List (Int × Int × Int × (List Byte) × Bool))).length, a551, pb551, cap551, F551, (EnvHas.cons rfl (EnvHas.cons rfl (EnvHas.cons rfl (EnvHas.cons rfl (EnvHas.cons rfl EnvHas.nil))))), h553, ho551⟩
                          ·
                            replace hR := ifF hR hc541
                            refine W.condF (congrArg Value.bool (Bool.eq_false_iff.2 hc541)) ?_
                            refine W.skip ?_
                            refine blockR_norm ?_
                            refine blockR_norm ?_
                            refine hK431 _ _ ?_; clear hK431
                            refine W.regionT [(0, true), (1, true), (2, true)] (by kernel_rfl) ?_
                            refine Plan.move_int rfl rfl ?_
                            refine Plan.addN (a := i_414) (b := 1) rfl rfl rfl (by omega) ?_
                            refine Plan.assign_int rfl rfl ?_
                            refine Plan.nil ?_
                            have h555 := St.pickT (C := [_, _, _, _, _]) h539 [4, 0, 1, 2, 3] (by decide)
                            simp only [pick, List.filterMap_cons, List.filterMap_nil, List.getElem?_cons_zero, List.getElem?_cons_succ, List.cons_append, List.nil_append] at h555
                            obtain ⟨CF556, hx556, hy556⟩ := hFj419
                            exact iterR_norm ⟨_, hR, CF556, L, hx556, L, rfl, l_413.length, al_413, pl_413, cl_413, Fl_413, (EnvHas.cons rfl (EnvHas.cons rfl (EnvHas.cons rfl (EnvHas.cons rfl (EnvHas.cons rfl EnvHas.nil))))), h555, ho513⟩
                      ·
                        replace hR := ifF hR hc501
                        refine W.condF (congrArg Value.bool (decide_eq_false hc501)) ?_
                        refine W.seq_k fun K557 hK557 => ?_
                        refine W.regionX (B := B) (w0 := (w0.on [mapR kvI (D60.at L) [] mw0_2_25 mp412])) (L := L) FNetIsBag.mixed [⟨15, 16, 60, [(1, fun _ => VN 0), (1, fun _ => VN 0), (1, fun _ => VN 0), (1, fun _ => .slice none 0 0)]⟩] [(0, true), (1, true), (2, true), (3, true), (4, true), (5, true), (6, true), (7, true), (8, true), (9, true), (11, true), (12, true)] [[(10, false)], [(13, false), (14, true)]] [(16, false)] (by kernel_rfl) (by kernel_rfl) (.cons FNetIsBag.z60 .nil) ?_
                        have h558 := h449.drew
                        refine Plan.move_slice rfl rfl ?_
                        refine Plan.len FNetIsBag.isl94 rfl rfl ?_
                        refine Plan.fieldAddr 2 FNetIsBag.fld89_2 rfl rfl ?_
                        refine Plan.load0 h558 2 rfl rfl rfl (by omega) FNetIsBag.sc3 ?_
                        refine Plan.maskI (a := (script1.getD i_414 ((0 : Int), (0 : Int), (0 : Int), (0 : Int), ([] : List Byte))).2.2.1) 1 (by decide) rfl rfl rfl ?_
                        refine Plan.addI (a := 1) (b := (((script1.getD i_414 ((0 : Int), (0 : Int), (0 : Int), (0 : Int), ([] : List Byte))).2.2.1) % 2)) rfl rfl rfl (by omega) ?_
                        refine Plan.fieldAddr 3 FNetIsBag.fld89_3 rfl rfl ?_
                        refine Plan.load0 h558 3 rfl rfl rfl (by omega) FNetIsBag.sc3 ?_
                        refine Plan.maskI (a := (script1.getD i_414 ((0 : Int), (0 : Int), (0 : Int), (0 : Int), ([] : List Byte))).2.2.2.1) 1 (by decide) rfl rfl rfl ?_
                        refine Plan.addI (a := 1) (b := (((script1.getD i_414 ((0 : Int), (0 : Int), (0 : Int), (0 : Int), ([] : List Byte))).2.2.2.1) % 2)) rfl rfl rfl (by omega) ?_
                        refine Plan.fieldAddr 4 FNetIsBag.fld89_4 rfl rfl ?_
                        refine Plan.load0 h558 4 rfl rfl rfl (by omega) FNetIsBag.sc23 ?_
                        refine Plan.nil ⟨[_, _, _, _, _, _, _, _, _, _], h558, (PIn.cons 4 rfl (PIn.cons 3 rfl (PIn.cons 2 rfl PIn.nil))), ?_⟩
                        refine PX.step fun C559 z559 w559 h559 => ?_
                        simp only [List.cons_append, List.nil_append] at h559
                        refine Plan.buildE h559 (fun q => VU .u8 ((fun _ => 0#8 : Nat → Byte) q)) FNetIsBag.slu23 FNetIsBag.sz5 rfl (EffO.keep (PIn.cons 4 rfl (PIn.cons 3 rfl (PIn.cons 2 rfl PIn.nil)))) fun b560 w560 hb560 h560 => ?_
                        refine Plan.nil ⟨[_, _, _, _, _, _, _, _, _, _, _], h560, (PIn.cons 5 rfl (PIn.cons 4 rfl (PIn.cons 3 rfl PIn.nil))), ?_⟩
                        refine PX.step fun C561 z561 w561 h561 => ?_
                        simp only [List.cons_append, List.nil_append] at h561
                        obtain ⟨hc563, hR⟩ := hR
                        refine Plan.appendO (X := ([] : List Byte)) (Y := ((script1.getD i_414 ((0 : Int), (0 : Int), (0 : Int), (0 : Int), ([] : List Byte))).2.2.2.2)) h561 0 Ow.empty FNetIsBag.el23 FNetIsBag.sl23 rfl rfl rfl rfl ((hv434_4.app C561).app [_, _, _, _, _, _, _, _, _, _, _]) hc563 (fun _ => EffO.mix _ (Filt.drop rfl (Filt.keep rfl (Filt.keep rfl Filt.nil))) (PIn.cons 4 rfl (PIn.cons 3 rfl PIn.nil))) fun a562 pb562 cap562 F562 w562 ho562 h562 => ?_
                        simp only [List.cons_append, List.nil_append, List.set_cons_zero, List.set_cons_succ] at h562
                        refine Plan.buildP (ps := [(1, fun _ => VN l_413.length), (1, fun _ => .int .i64 (1 + (((script1.getD i_414 ((0 : Int), (0 : Int), (0 : Int), (0 : Int), ([] : List Byte))).2.2.1) % 2))), (1, fun _ => .int .i64 (1 + (((script1.getD i_414 ((0 : Int), (0 : Int), (0 : Int), (0 : Int), ([] : List Byte))).2.2.2.1) % 2))), (1, fun _ => .slice a562 ((([] : List Byte) ++ ((script1.getD i_414 ((0 : Int), (0 : Int), (0 : Int), (0 : Int), ([] : List Byte))).2.2.2.2)).length) cap562)]) FNetIsBag.pl60 (by decide) FNetIsBag.z60 rfl rfl (.one [] [(1, fun _ => VN 0), (1, fun _ => VN 0), (1, fun _ => .slice none 0 0)] (fun _ => VN 0) rfl rfl (.one [(1, fun _ => VN l_413.length)] [(1, fun _ => VN 0), (1, fun _ => .slice none 0 0)] (fun _ => VN 0) rfl rfl (.one [(1, fun _ => VN l_413.length), (1, fun _ => .int .i64 (1 + (((script1.getD i_414 ((0 : Int), (0 : Int), (0 : Int), (0 : Int), ([] : List Byte))).2.2.1) % 2)))] [(1, fun _ => .slice none 0 0)] (fun _ => VN 0) rfl rfl (.one [(1, fun _ => VN l_413.length), (1, fun _ => .int .i64 (1 + (((script1.getD i_414 ((0 : Int), (0 : Int), (0 : Int), (0 : Int), ([] : List Byte))).2.2.1) % 2))), (1, fun _ => .int .i64 (1 + (((script1.getD i_414 ((0 : Int), (0 : Int), (0 : Int), (0 : Int), ([] : List Byte))).2.2.2.1) % 2)))] [] (fun _ => .slice none 0 0) rfl rfl .nil)))) ?_
                        refine Plan.nil ⟨[_, _, _, _, _, _, _, _, _, _, _], h562, (PIn.cons 4 rfl (PIn.cons 3 rfl PIn.nil)), ?_⟩
                        refine PX.done (KE.step fun b564_15 => (KE.fin fun w564 h564 => ?_))
                        simp only [rngs, Nat.zero_add, Nat.reduceAdd, List.cons_append, List.nil_append] at h564
                        refine Plan.storeP (ps := [(1, fun _ => VN l_413.length), (1, fun _ => .int .i64 (1 + (((script1.getD i_414 ((0 : Int), (0 : Int), (0 : Int), (0 : Int), ([] : List Byte))).2.2.1) % 2))), (1, fun _ => .int .i64 (1 + (((script1.getD i_414 ((0 : Int), (0 : Int), (0 : Int), (0 : Int), ([] : List Byte))).2.2.2.1) % 2))), (1, fun _ => .slice a562 ((([] : List Byte) ++ ((script1.getD i_414 ((0 : Int), (0 : Int), (0 : Int), (0 : Int), ([] : List Byte))).2.2.2.2)).length) cap562)]) h564 rfl rfl rfl (.cons 11 rfl (.cons 12 rfl (.cons 13 rfl (.cons 14 rfl .nil)))) ⟨fun _ _ => rfl, fun _ _ => rfl, fun _ _ => rfl, fun _ _ => rfl, trivial⟩ FNetIsBag.sz60 (EffO.wait rfl) fun w565 h565 => ?_
                        simp only [List.cons_append, List.nil_append, List.set_cons_zero, List.set_cons_succ] at h565
                        refine Plan.nil ?_
                        refine hK557 _ _ ?_; clear hK557
                        refine W.seq_k fun K566 hK566 => ?_
                        refine W.regionD FNetIsBag.mixed [(0, true), (1, true), (2, true), (3, true), (4, true), (6, true), (7, true), (5, false), (8, false), (9, false), (10, true), (11, true), (12, true), (13, true), (14, true)] (by kernel_rfl) ?_
                        have h567 := h565.drew
                        refine Plan.move_ptr rfl rfl ?_
                        refine Plan.fieldAddr 1 FNetIsBag.fld60_1 rfl rfl ?_
                        refine Plan.load0 h567 12 rfl rfl rfl (by omega) FNetIsBag.sc3 ?_
                        refine Plan.fieldAddr 2 FNetIsBag.fld60_2 rfl rfl ?_
                        refine Plan.load0 h567 13 rfl rfl rfl (by omega) FNetIsBag.sc3 ?_
                        refine Plan.fieldAddr 4 FNetIsBag.fld89_4 rfl rfl ?_
                        refine Plan.load0 h567 5 rfl rfl rfl (by omega) FNetIsBag.sc23 ?_
                        refine Plan.buildE h567 (fun q => VU .u8 ((fun _ => 0#8 : Nat → Byte) q)) FNetIsBag.slu23 FNetIsBag.sz5 rfl (EffO.keep (PIn.cons 5 rfl (PIn.cons 13 rfl (PIn.cons 12 rfl PIn.nil)))) fun b568 w568 hb568 h568 => ?_
                        obtain ⟨hc570, hR⟩ := hR
                        refine Plan.appendO (X := ([] : List Byte)) (Y := ((script1.getD i_414 ((0 : Int), (0 : Int), (0 : Int), (0 : Int), ([] : List Byte))).2.2.2.2)) h568 0 Ow.empty FNetIsBag.el23 FNetIsBag.sl23 rfl rfl rfl rfl (hv434_4.app [_, _, _, _, _, _, _, _, _, _, _, _, _, _, _, _]) hc570 (fun _ => EffO.mix _ (Filt.drop rfl (Filt.keep rfl (Filt.keep rfl Filt.nil))) (PIn.cons 14 rfl (PIn.cons 13 rfl PIn.nil))) fun a569 pb569 cap569 F569 w569 ho569 h569 => ?_
                        simp only [List.cons_append, List.nil_append, List.set_cons_zero, List.set_cons_succ] at h569
                        have h571 := St.pickT (C := [_, _, _, _, _, _, _, _, _, _, _, _, _, _, _, _]) h569 [8, 9, 10, 11, 0, 1, 2, 3, 4, 5, 6, 7, 12, 13, 14, 15] (by decide)
                        simp only [pick, List.filterMap_cons, List.filterMap_nil, List.getElem?_cons_zero, List.getElem?_cons_succ, List.cons_append, List.nil_append] at h571
                        obtain ⟨x_573, x_574, x_575, x_576, hr572, hR⟩ := hR
                        refine Plan.call (vs := [.pointer (some ⟨b0_24, 0, none⟩), .int .i64 (1 + (((script1.getD i_414 ((0 : Int), (0 : Int), (0 : Int), (0 : Int), ([] : List Byte))).2.2.1) % 2)), .int .i64 (1 + (((script1.getD i_414 ((0 : Int), (0 : Int), (0 : Int), (0 : Int), ([] : List Byte))).2.2.2.1) % 2)), .slice a569 ((([] : List Byte) ++ ((script1.getD i_414 ((0 : Int), (0 : Int), (0 : Int), (0 : Int), ([] : List Byte))).2.2.2.2)).length) cap569]) rfl FNetIsBag.call30 rfl (net_Net_Send_ok (w0 := w0) (LP := L) (by exact fun r hr => List.mem_append_right [_, _, _, _, _, _, _, _, _, _, _, _] ((fun _ h => h) r hr)) (by exact (ho569.bx 0 rfl)) hr572 (show St B (w0.on [mapR kvI (D60.at L) [] mw0_2_25 mp412]) _ _ from h571)) ?_
                        rintro _ w577 ⟨C577, rfl, h577⟩
                        replace h577 : St B (w0.on [mapR kvI (D60.at (C577 ++ L)) [] mw0_2_25 x_576]) _ _ := h577
                        replace h577 := St.pool (N := [_, _, _, _]) (R := [_, _, _, _, _, _, _, _, _, _, _, _]) h577
                        obtain ⟨L, hL578⟩ : ∃ X, X = C577 ++ L := ⟨_, rfl⟩
                        have h578 := St.re (N := [_, _, _, _, _, _, _, _, _, _, _, _, _, _, _, _]) hL578 h577
                        simp only [List.cons_append, List.nil_append] at h578
                        replace hFr : Fr2 _ _ L L := hFr.step hL578 hL578
                        replace hFj419 : Fr2 _ _ L L := hFj419.step hL578 hL578
                        obtain ⟨ix579, hv579⟩ : ∃ i, LV (D89.at L) L i ascript1 script1.length cscript1 script1 := ⟨_, by rw [hL578]; exact (LV.grow D89_lifts (fun r hr => List.mem_append_right _ hr) hv423).app _⟩
                        obtain ⟨ix580, hv580⟩ : ∃ i, Bx L i ((b434).1) (((script1.getD i_414 ((0 : Int), (0 : Int), (0 : Int), (0 : Int), ([] : List Byte))).2.2.2.2).length) ((b434).2) ((script1.getD i_414 ((0 : Int), (0 : Int), (0 : Int), (0 : Int), ([] : List Byte))).2.2.2.2) := ⟨_, by rw [hL578]; exact hv434_4.app _⟩
                        have ho581 : LO (D93.at L) [] al_413 pl_413 ((l_413).length) cl_413 Fl_413 l_413 := by rw [hL578]; exact LO.grow D93_lifts (fun r hr => List.mem_append_right _ hr) hl_413
                        have h583 := St.eqM (A' := L) h578 (i := 0) rfl hL578
                        simp only [List.set_cons_zero, List.set_cons_succ] at h583
                        refine ⟨_, rfl, .inr ⟨rfl, ?_⟩⟩
                        refine Plan.move_tuple rfl rfl ?_
                        refine Plan.extract_int rfl rfl rfl ?_
                        refine Plan.extract_int rfl rfl rfl ?_
                        refine Plan.assign_int rfl rfl ?_
                        refine Plan.assign_int rfl rfl ?_
                        refine Plan.nil ?_
                        refine hK566 _ _ ?_; clear hK566
                        refine W.seq_k fun K584 hK584 => ?_
                        refine W.seq_k fun K590 hK590 => ?_
                        refine W.regionT [(0, true), (1, true), (2, true), (3, true), (4, true), (5, true), (6, true), (7, true)] (by kernel_rfl) ?_
                        refine Plan.move_int rfl rfl ?_
                        by_cases hc591 : x_574 ≠ 0
                        ·
                          replace hR := ifT hR hc591
                          refine Plan.cmpV (a := (((x_574 : Nat) : Int) : Int)) (b := (0 : Int)) (p := x_574 ≠ 0) (v := true) rfl rfl rfl rfl icmp_neN (decide_eq_true hc591) ?_
                          refine Plan.move_bool rfl rfl ?_
                          refine Plan.passed rfl ?_
                          refine Plan.passed rfl ?_
                          refine Plan.passed rfl ?_
                          refine Plan.passed rfl ?_
                          refine Plan.pickTb rfl rfl rfl ?_
                          refine Plan.nil ?_
                          refine hK590 _ _ ?_; clear hK590
                          refine W.condT rfl ?_
                          refine W.seq_k fun K592 hK592 => ?_
                          refine W.regionT [(0, true)] (by kernel_rfl) ?_
                          refine Plan.assign_bool rfl rfl ?_
                          refine Plan.nil ?_
                          refine hK592 _ _ ?_; clear hK592
                          refine W.ret (thenR_ret (blockR_ret (blockR_ret (thenR_ret (iterR_ret (blockR_ret (thenR_ret (thenR_ret (finR_ret ?_)))))))))
                          have h593 := St.pickT (C := [_, _, _, _, _, _, _, _, _, _, _, _, _, _, _, _]) h583 [] (by decide)
                          simp only [pick, List.filterMap_cons, List.filterMap_nil, List.getElem?_cons_zero, List.getElem?_cons_succ, List.cons_append, List.nil_append] at h593
                          have h594 : St B w0 _ _ := St.mpick (N := [mapR kvI (D60.at L) [] mw0_2_25 x_576]) (N' := []) h593 [] (by decide) rfl
                          replace hR := hR.2
                          subst r
                          refine RetOk.mk (.tmp_bool rfl .nil) ?_
                          obtain ⟨CF, hx1, hx2⟩ := hFr
                          subst hx1
                          have hdr := St.dropC (N := []) h594
                          exact ⟨rfl, hdr⟩
                        ·
                          replace hR := ifF hR hc591
                          refine Plan.cmpV (a := (((x_574 : Nat) : Int) : Int)) (b := (0 : Int)) (p := x_574 ≠ 0) (v := false) rfl rfl rfl rfl icmp_neN (decide_eq_false hc591) ?_
                          refine Plan.move_bool rfl rfl ?_
                          refine Plan.move_int rfl rfl ?_
                          refine Plan.move_slice rfl rfl ?_
                          refine Plan.len FNetIsBag.isl94 rfl rfl ?_
                          refine Plan.cmpP (a := (x_573 : Int)) (b := (((l_413.length : Nat) : Int) : Int)) (p := x_573 ≠ ((l_413.length : Nat) : Int)) rfl rfl rfl rfl icmp_ne ?_
                          refine Plan.pickFb rfl rfl rfl ?_
                          refine Plan.nil ?_
                          refine hK590 _ _ ?_; clear hK590
                          by_cases hc595 : x_573 ≠ ((l_413.length : Nat) : Int)
                          ·
                            replace hR := ifT hR hc595
                            refine W.condT (congrArg Value.bool (decide_eq_true hc595)) ?_
                            refine W.seq_k fun K596 hK596 => ?_
                            refine W.regionT [(0, true)] (by kernel_rfl) ?_
                            refine Plan.assign_bool rfl rfl ?_
                            refine Plan.nil ?_
                            refine hK596 _ _ ?_; clear hK596
                            refine W.ret (thenR_ret (blockR_ret (blockR_ret (thenR_ret (iterR_ret (blockR_ret (thenR_ret (thenR_ret (finR_ret ?_)))))))))
                            have h597 := St.pickT (C := [_, _, _, _, _, _, _, _, _, _, _, _, _, _, _, _]) h583 [] (by decide)
                            simp only [pick, List.filterMap_cons, List.filterMap_nil, List.getElem?_cons_zero, List.getElem?_cons_succ, List.cons_append, List.nil_append] at h597
                            have h598 : St B w0 _ _ := St.mpick (N := [mapR kvI (D60.at L) [] mw0_2_25 x_576]) (N' := []) h597 [] (by decide) rfl
                            replace hR := hR.2
                            subst r
                            refine RetOk.mk (.tmp_bool rfl .nil) ?_
                            obtain ⟨CF, hx1, hx2⟩ := hFr
                            subst hx1
                            have hdr := St.dropC (N := []) h598
                            exact ⟨rfl, hdr⟩
                          ·
                            replace hR := ifF hR hc595
                            refine W.condF (congrArg Value.bool (decide_eq_false hc595)) ?_
                            refine W.skip ?_
                            refine hK584 _ _ ?_; clear hK584
                            refine W.regionT [(0, true), (1, true), (2, true), (3, false), (4, false), (5, true)] (by kernel_rfl) ?_
                            refine Plan.move_slice rfl rfl ?_
                            refine Plan.loadA h583 rfl rfl (.cons 12 rfl (.cons 13 rfl (.cons 14 rfl (.cons 15 rfl .nil)))) FNetIsBag.agg60 ?_
                            refine Plan.buildP (ps := [(1, fun _ => VN l_413.length), (1, fun _ => .int .i64 (1 + (((script1.getD i_414 ((0 : Int), (0 : Int), (0 : Int), (0 : Int), ([] : List Byte))).2.2.1) % 2))), (1, fun _ => .int .i64 (1 + (((script1.getD i_414 ((0 : Int), (0 : Int), (0 : Int), (0 : Int), ([] : List Byte))).2.2.2.1) % 2))), (1, fun _ => .slice a562 ((([] : List Byte) ++ ((script1.getD i_414 ((0 : Int), (0 : Int), (0 : Int), (0 : Int), ([] : List Byte))).2.2.2.2)).length) cap562), (1, fun _ => .bool true)]) FNetIsBag.pl93 (by decide) FNetIsBag.z93 rfl rfl (.agg [] [(1, fun _ => VN 0), (1, fun _ => VN 0), (1, fun _ => VN 0), (1, fun _ => .slice none 0 0)] [(1, fun _ => .bool false)] [(1, fun _ => VN l_413.length), (1, fun _ => .int .i64 (1 + (((script1.getD i_414 ((0 : Int), (0 : Int), (0 : Int), (0 : Int), ([] : List Byte))).2.2.1) % 2))), (1, fun _ => .int .i64 (1 + (((script1.getD i_414 ((0 : Int), (0 : Int), (0 : Int), (0 : Int), ([] : List Byte))).2.2.2.1) % 2))), (1, fun _ => .slice a562 ((([] : List Byte) ++ ((script1.getD i_414 ((0 : Int), (0 : Int), (0 : Int), (0 : Int), ([] : List Byte))).2.2.2.2)).length) cap562)] rfl rfl (.one [(1, fun _ => VN l_413.length), (1, fun _ => .int .i64 (1 + (((script1.getD i_414 ((0 : Int), (0 : Int), (0 : Int), (0 : Int), ([] : List Byte))).2.2.1) % 2))), (1, fun _ => .int .i64 (1 + (((script1.getD i_414 ((0 : Int), (0 : Int), (0 : Int), (0 : Int), ([] : List Byte))).2.2.2.1) % 2))), (1, fun _ => .slice a562 ((([] : List Byte) ++ ((script1.getD i_414 ((0 : Int), (0 : Int), (0 : Int), (0 : Int), ([] : List Byte))).2.2.2.2)).length) cap562)] [] (fun _ => .bool false) rfl rfl .nil)) ?_
                            have h601 := St.pickT (C := [_, _, _, _, _, _, _, _, _, _, _, _, _, _, _, _]) h583 [0, 1, 2, 3, 4, 6, 7, 8, 9, 10, 11, 12, 13, 14, 15, 5] (by decide)
                            simp only [pick, List.filterMap_cons, List.filterMap_nil, List.getElem?_cons_zero, List.getElem?_cons_succ, List.cons_append, List.nil_append] at h601
                            obtain ⟨L, hL602⟩ : ∃ X, X = [⟨pb562, 0, cap562, fun q => VU .u8 (F562 q), true⟩] ++ L := ⟨_, rfl⟩
                            have h602 := St.re (N := [_, _, _, _, _, _, _, _, _, _, _, _, _, _, _]) hL602 h601
                            simp only [List.cons_append, List.nil_append] at h602
                            replace hFr : Fr2 _ _ L L := hFr.step hL602 hL602
                            replace hFj419 : Fr2 _ _ L L := hFj419.step hL602 hL602
                            obtain ⟨ix603, hv603⟩ : ∃ i, LV (D89.at L) L i ascript1 script1.length cscript1 script1 := ⟨_, by rw [hL602]; exact (LV.grow D89_lifts (fun r hr => List.mem_append_right _ hr) hv579).app _⟩
                            obtain ⟨ix604, hv604⟩ : ∃ i, Bx L i ((b434).1) (((script1.getD i_414 ((0 : Int), (0 : Int), (0 : Int), (0 : Int), ([] : List Byte))).2.2.2.2).length) ((b434).2) ((script1.getD i_414 ((0 : Int), (0 : Int), (0 : Int), (0 : Int), ([] : List Byte))).2.2.2.2) := ⟨_, by rw [hL602]; exact hv580.app _⟩
                            have ho605 : LO (D93.at L) [] al_413 pl_413 ((l_413).length) cl_413 Fl_413 l_413 := by rw [hL602]; exact LO.grow D93_lifts (fun r hr => List.mem_append_right _ hr) ho581
                            have h606 := St.liftM (LP' := L) h602 (i := 0) rfl D60_lifts (fun r hr => by rw [hL602]; exact List.mem_append_right _ hr)
                            simp only [List.set_cons_zero, List.set_cons_succ] at h606
                            obtain ⟨ix607, hv607⟩ : ∃ i, Bx L i a562 ((([] : List Byte) ++ ((script1.getD i_414 ((0 : Int), (0 : Int), (0 : Int), (0 : Int), ([] : List Byte))).2.2.2.2)).length) cap562 (([] : List Byte) ++ ((script1.getD i_414 ((0 : Int), (0 : Int), (0 : Int), (0 : Int), ([] : List Byte))).2.2.2.2)) := ⟨_, by rw [hL602]; exact (ho562.bx 0 rfl)⟩
                            refine Plan.buildLO (D := (D93.at L)) (sz := 5) h606 [((a562, cap562), ((((l_413.length : Nat) : Int), (1 + (((script1.getD i_414 ((0 : Int), (0 : Int), (0 : Int), (0 : Int), ([] : List Byte))).2.2.1) % 2)), (1 + (((script1.getD i_414 ((0 : Int), (0 : Int), (0 : Int), (0 : Int), ([] : List Byte))).2.2.2.1) % 2)), (([] : List Byte) ++ ((script1.getD i_414 ((0 : Int), (0 : Int), (0 : Int), (0 : Int), ([] : List Byte))).2.2.2.2)), true) : (Int × Int × Int × (List Byte) × Bool)))] FNetIsBag.slu94 FNetIsBag.sz93 FNetIsBag.zv93 (by decide) (by decide) rfl rfl rfl rfl (by exact (List.forall_mem_cons.2 ⟨⟨_, hv607⟩, (fun _ h => nomatch h)⟩)) (EffO.keep (PIn.parts (.cons 11 rfl (.cons 12 rfl (.cons 13 rfl (.cons 14 rfl .nil)))) PIn.nil)) fun b600 w600 F600 hb600 ho600 h600 => ?_
                            replace ho600 : LO (D93.at L) [] (some ⟨b600, 0, none⟩) (some b600) ([(((l_413.length : Nat) : Int), (1 + (((script1.getD i_414 ((0 : Int), (0 : Int), (0 : Int), (0 : Int), ([] : List Byte))).2.2.1) % 2)), (1 + (((script1.getD i_414 ((0 : Int), (0 : Int), (0 : Int), (0 : Int), ([] : List Byte))).2.2.2.1) % 2)), (([] : List Byte) ++ ((script1.getD i_414 ((0 : Int), (0 : Int), (0 : Int), (0 : Int), ([] : List Byte))).2.2.2.2)), true)] : List (Int × Int × Int × (List Byte) × Bool)).length 1 F600 ([(((l_413.length : Nat) : Int), (1 + (((script1.getD i_414 ((0 : Int), (0 : Int), (0 : Int), (0 : Int), ([] : List Byte))).2.2.1) % 2)), (1 + (((script1.getD i_414 ((0 : Int), (0 : Int), (0 : Int), (0 : Int), ([] : List Byte))).2.2.2.1) % 2)), (([] : List Byte) ++ ((script1.getD i_414 ((0 : Int), (0 : Int), (0 : Int), (0 : Int), ([] : List Byte))).2.2.2.2)), true)] : List (Int × Int × Int × (List Byte) × Bool)) := ho600.re (fun _ _ h => h)
                            obtain ⟨hc609, hR⟩ := hR
                            refine Plan.appendLK (D := (D93.at L)) (X := l_413) (Y := ([(((l_413.length : Nat) : Int), (1 + (((script1.getD i_414 ((0 : Int), (0 : Int), (0 : Int), (0 : Int), ([] : List Byte))).2.2.1) % 2)), (1 + (((script1.getD i_414 ((0 : Int), (0 : Int), (0 : Int), (0 : Int), ([] : List Byte))).2.2.2.1) % 2)), (([] : List Byte) ++ ((script1.getD i_414 ((0 : Int), (0 : Int), (0 : Int), (0 : Int), ([] : List Byte))).2.2.2.2)), true)] : List (Int × Int × Int × (List Byte) × Bool))) (sz := 5) h600 (none, 0) ((0 : Int), (0 : Int), (0 : Int), ([] : List Byte), false) 11 EL.at_flat ho605 rfl FNetIsBag.el94 rfl FNetIsBag.slu94 rfl rfl rfl rfl (LO.lvf EL.at_flat ho600 0 rfl) hc609.1 hc609.2 (fun _ _ => EffO.keep (PIn.parts (.cons 13 rfl (.cons 14 rfl (.cons 15 rfl (.cons 16 rfl .nil)))) PIn.nil)) fun a608 pb608 cap608 F608 r608 iz608 w608 ho608 hi608 hv608 h608 => ?_
                            simp only [List.cons_append, List.nil_append, List.set_cons_zero, List.set_cons_succ] at h608 hv608
                            refine Plan.assign_slice rfl rfl ?_
                            refine Plan.nil ?_
                            refine blockR_norm ?_
                            refine blockR_norm ?_
                            refine hK431 _ _ ?_; clear hK431
                            refine W.regionT [(0, true), (1, true), (2, true)] (by kernel_rfl) ?_
                            refine Plan.move_int rfl rfl ?_
                            refine Plan.addN (a := i_414) (b := 1) rfl rfl rfl (by omega) ?_
                            refine Plan.assign_int rfl rfl ?_
                            refine Plan.nil ?_
                            have h610 := St.pickT (C := [_, _, _, _, _, _, _, _, _, _, _, _, _, _, _, _, _]) h608 [0, 2, 3, 4, 5] (by decide)
                            simp only [pick, List.filterMap_cons, List.filterMap_nil, List.getElem?_cons_zero, List.getElem?_cons_succ, List.cons_append, List.nil_append] at h610
                            obtain ⟨CF611, hx611, hy611⟩ := hFj419
                            exact iterR_norm ⟨_, hR, CF611, L, hx611, L, rfl, (l_413 ++ ([(((l_413.length : Nat) : Int), (1 + (((script1.getD i_414 ((0 : Int), (0 : Int), (0 : Int), (0 : Int), ([] : List Byte))).2.2.1) % 2)), (1 + (((script1.getD i_414 ((0 : Int), (0 : Int), (0 : Int), (0 : Int), ([] : List Byte))).2.2.2.1) % 2)), (([] : List Byte) ++ ((script1.getD i_414 ((0 : Int), (0 : Int), (0 : Int), (0 : Int), ([] : List Byte))).2.2.2.2)), true)] : List (Int × Int × Int × (List Byte) × Bool))).length, a608, pb608, cap608, F608, (EnvHas.cons rfl (EnvHas.cons rfl (EnvHas.cons rfl (EnvHas.cons rfl (EnvHas.cons rfl EnvHas.nil))))), h610, ho608⟩
              ·
                replace hR := ifF hR hc430
                refine W.condF (congrArg Value.bool (decide_eq_false hc430)) ?_
                refine W.exit (thenR_exit (iterR_exit (blockR_here ?_)))
                obtain ⟨CF612, hx612, hy612⟩ := hFj419
                exact ⟨mp412, l_413, m415, (hx419 _ hR).symm, CF612, L, hx612, L, rfl, l_413.length, al_413, pl_413, cl_413, Fl_413, (EnvHas.cons rfl (EnvHas.cons rfl (EnvHas.cons rfl EnvHas.nil))), h421, hl_413⟩
            ·
              replace hR := ifF hR hc429
              refine Plan.cmpV (a := (((i_414 : Nat) : Int) : Int)) (b := (((script1.length : Nat) : Int) : Int)) (p := i_414 < script1.length) (v := false) rfl rfl rfl rfl icmp_ltN (decide_eq_false hc429) ?_
              refine Plan.move_bool rfl rfl ?_
              refine Plan.passed rfl ?_
              refine Plan.passed rfl ?_
              refine Plan.pickFb rfl rfl rfl ?_
              refine Plan.nil ?_
              refine hK428 _ _ ?_; clear hK428
              refine W.condF rfl ?_
              refine W.exit (thenR_exit (iterR_exit (blockR_here ?_)))
              obtain ⟨CF613, hx613, hy613⟩ := hFj419
              exact ⟨mp412, l_413, m415, (hx419 _ hR).symm, CF613, L, hx613, L, rfl, l_413.length, al_413, pl_413, cl_413, Fl_413, (EnvHas.cons rfl (EnvHas.cons rfl (EnvHas.cons rfl EnvHas.nil))), h421, hl_413⟩
          ·
            rintro ev614 wl614 ⟨y_mp416, y_l_417, y_m418, hy614, CG614, LG614, hlg614, L, hLe614, n_l_417, al_417, pl_417, cl_417, Fl_417, he614, h614, hl_417⟩
            obtain ⟨ev614, rfl⟩ := he614.open
            replace hR := hR0419 y_mp416 y_l_417 y_m418 hy614
            obtain ⟨mp416, e_mp416⟩ : ∃ z, z = y_mp416 := ⟨_, rfl⟩; subst e_mp416
            obtain ⟨l_417, e_l_417⟩ : ∃ z, z = y_l_417 := ⟨_, rfl⟩; subst e_l_417
            obtain ⟨m418, e_m418⟩ : ∃ z, z = y_m418 := ⟨_, rfl⟩; subst e_m418
            obtain rfl : List.length (α := (Int × Int × Int × (List Byte) × Bool)) l_417 = n_l_417 := hl_417.hl
            have hL614 := hLe614.trans hlg614
            replace hFr : Fr2 _ _ L L := hFr.step hL614 hL614
            replace hFj419 : Fr2 _ _ L L := hFj419.step hL614 hL614
            refine hK77 _ _ ?_; clear hK77
            refine W.seq_k fun K616 hK616 => ?_
            refine W.seq_k fun K617 hK617 => ?_
            refine W.regionT [(0, true)] (by kernel_rfl) ?_
            refine Plan.assign_int rfl rfl ?_
            refine Plan.nil ?_
            refine hK617 _ _ ?_; clear hK617
            have hFj691 : Fr2 L L L L := Fr2.refl _ _
            obtain ⟨x691, hI691, hR0691⟩ := hR
            refine W.cutN (fun e w => ∃ y_mp689 : List (Int × (Int × Int × Int × (List Byte))), ∃ y_l_690 : List (Int × Int × Int × (List Byte) × Bool), x691 = some (y_mp689, y_l_690) ∧ ∃ CG LG : List Rg, LG = CG ++ L ∧ ∃ L : List Rg, L = LG ∧ ∃ n_l_690 : Nat, ∃ al_690 : Option Addr, ∃ pl_690 : Option Nat, ∃ cl_690 : Nat, ∃ Fl_690 : Nat → Value, EnvHas e [(5, .pointer (some ⟨b0_24, 0, none⟩)), (8, .slice al_690 n_l_690 cl_690)] ∧ St B (w0.on [mapR kvI (D60.at L) [] mw0_2_25 y_mp689]) (⟨pl_690, 0, cl_690 * 5, Fl_690, true⟩ :: ⟨some b0_24, 0, 1, fun _ => .int .i64 x_7, true⟩ :: ⟨some b0_24, 1, 1, fun _ => .int .i64 x_8, true⟩ :: ⟨some b0_24, 2, 1, fun _ => .map (some mw0_2_25), true⟩ :: ⟨some b0_24, 3, 1, fun _ => .int .i64 m418, true⟩ :: L) w ∧ LO (D93.at L) [] al_690 pl_690 n_l_690 cl_690 Fl_690 y_l_690) ?_ ?_
            ·
              refine W.block ?_
              refine W.iter hI691 (fun (s691 : ((List (Int × (Int × Int × Int × (List Byte)))) × (List (Int × Int × Int × (List Byte) × Bool)) × Nat)) e w => ∃ CG LG : List Rg, LG = CG ++ L ∧ ∃ L : List Rg, L = LG ∧ ∃ n_l_687 : Nat, ∃ al_687 : Option Addr, ∃ pl_687 : Option Nat, ∃ cl_687 : Nat, ∃ Fl_687 : Nat → Value, EnvHas e [(1, .bool back2), (5, .pointer (some ⟨b0_24, 0, none⟩)), (8, .slice al_687 n_l_687 cl_687), (19, VN s691.2.2)] ∧ St B (w0.on [mapR kvI (D60.at L) [] mw0_2_25 s691.1]) (⟨pl_687, 0, cl_687 * 5, Fl_687, true⟩ :: ⟨some b0_24, 0, 1, fun _ => .int .i64 x_7, true⟩ :: ⟨some b0_24, 1, 1, fun _ => .int .i64 x_8, true⟩ :: ⟨some b0_24, 2, 1, fun _ => .map (some mw0_2_25), true⟩ :: ⟨some b0_24, 3, 1, fun _ => .int .i64 m418, true⟩ :: L) w ∧ LO (D93.at L) [] al_687 pl_687 n_l_687 cl_687 Fl_687 s691.2.1) ⟨[], L, rfl, L, rfl, l_417.length, al_417, pl_417, cl_417, Fl_417, (EnvHas.cons rfl (EnvHas.cons rfl (EnvHas.cons rfl (EnvHas.cons rfl EnvHas.nil)))), h614, hl_417⟩ ?_
              rintro ⟨mp686, l_687, i_688⟩ o691 hR hx691 ev692 wl692 ⟨CG692, LG692, hlg692, L, hLe692, n_l_687, al_687, pl_687, cl_687, Fl_687, he692, h692, hl_687⟩
              try dsimp only at he692 h692 hl_687
              obtain rfl : List.length (α := (Int × Int × Int × (List Byte) × Bool)) l_687 = n_l_687 := hl_687.hl
              obtain ⟨ev692, rfl⟩ := he692.open
              unfold lethelaw23_NetIsBag_l1 at hR
              have hL692 := hLe692.trans hlg692
              replace hFr : Fr2 _ _ L L := hFr.step hL692 hL692
              replace hFj419 : Fr2 _ _ L L := hFj419.step hL692 hL692
              replace hFj691 : Fr2 _ _ L L := hFj691.step hL692 hL692
              refine W.seq_k fun K694 hK694 => ?_
              refine W.seq_k fun K695 hK695 => ?_
              refine W.regionT [(0, true), (1, true), (2, true), (3, true)] (by kernel_rfl) ?_
              refine Plan.move_int rfl rfl ?_
              refine Plan.move_slice rfl rfl ?_
              refine Plan.len FNetIsBag.isl94 rfl rfl ?_
              refine Plan.cmpP (a := (((i_688 : Nat) : Int) : Int)) (b := (((l_687.length : Nat) : Int) : Int)) (p := i_688 < l_687.length) rfl rfl rfl rfl icmp_ltN ?_
              refine Plan.nil ?_
              refine hK695 _ _ ?_; clear hK695
              by_cases hc696 : i_688 < l_687.length
              ·
                replace hR := ifT hR hc696
                refine W.condT (congrArg Value.bool (decide_eq_true hc696)) ?_
                refine W.skip ?_
                refine hK694 _ _ ?_; clear hK694
                refine W.seq_k fun K697 hK697 => ?_
                refine W.block ?_
                refine W.seq_k fun K698 hK698 => ?_
                refine W.regionT [(0, true), (1, true)] (by kernel_rfl) ?_
                refine Plan.move_int rfl rfl ?_
                refine Plan.assign_int rfl rfl ?_
                refine Plan.nil ?_
                refine hK698 _ _ ?_; clear hK698
                refine W.seq_k fun K699 hK699 => ?_
                obtain ⟨k704, hX705, hR0705⟩ := hR
                refine W.cutN (fun e w => ∃ y_k704 : Int, (k704 = y_k704) ∧ EnvHas e [(1, .bool back2), (5, .pointer (some ⟨b0_24, 0, none⟩)), (8, .slice al_687 l_687.length cl_687), (19, VN i_688), (20, .int .i64 y_k704)] ∧ St B (w0.on [mapR kvI (D60.at L) [] mw0_2_25 mp686]) (⟨pl_687, 0, cl_687 * 5, Fl_687, true⟩ :: ⟨some b0_24, 0, 1, fun _ => .int .i64 x_7, true⟩ :: ⟨some b0_24, 1, 1, fun _ => .int .i64 x_8, true⟩ :: ⟨some b0_24, 2, 1, fun _ => .map (some mw0_2_25), true⟩ :: ⟨some b0_24, 3, 1, fun _ => .int .i64 m418, true⟩ :: L) w) ?_ ?_
                ·
                  replace hR := hX705
                  refine W.seq_k fun K706 hK706 => ?_
                  refine W.regionT [(0, true)] (by kernel_rfl) ?_
                  refine Plan.move_bool rfl rfl ?_
                  refine Plan.nil ?_
                  refine hK706 _ _ ?_; clear hK706
                  by_cases hc707 : back2 = true
                  ·
                    replace hR := ifT hR hc707
                    refine W.condT (congrArg Value.bool hc707) ?_
                    refine W.regionT [(0, true), (1, true), (2, true), (3, true), (4, true), (5, true)] (by kernel_rfl) ?_
                    refine Plan.move_slice rfl rfl ?_
                    refine Plan.len FNetIsBag.isl94 rfl rfl ?_
                    obtain ⟨hc708, hR⟩ := hR
                    refine Plan.subI (a := ((l_687.length : Nat) : Int)) (b := 1) rfl rfl rfl (by omega) ?_
                    refine Plan.move_int rfl rfl ?_
                    obtain ⟨hc709, hR⟩ := hR
                    refine Plan.subI (a := (((l_687.length : Nat) : Int) - 1)) (b := ((i_688 : Nat) : Int)) rfl rfl rfl (by omega) ?_
                    refine Plan.assign_int rfl rfl ?_
                    refine Plan.nil ?_
                    exact ⟨((((l_687.length : Nat) : Int) - 1) - ((i_688 : Nat) : Int)), hR, (EnvHas.cons rfl (EnvHas.cons rfl (EnvHas.cons rfl (EnvHas.cons rfl (EnvHas.cons rfl EnvHas.nil))))), h692⟩
                  ·
                    replace hR := ifF hR hc707
                    refine W.condF (congrArg Value.bool (Bool.eq_false_iff.2 hc707)) ?_
                    refine W.skip ?_
                    exact ⟨((i_688 : Nat) : Int), hR, (EnvHas.cons rfl (EnvHas.cons rfl (EnvHas.cons rfl (EnvHas.cons rfl (EnvHas.cons rfl EnvHas.nil))))), h692⟩
                ·
                  rintro ev710 wl710 ⟨y_k704, hy710_0, he710, h710⟩
                  subst hy710_0
                  obtain ⟨ev710, rfl⟩ := he710.open
                  replace hR := hR0705
                  refine hK699 _ _ ?_; clear hK699
                  refine W.seq_k fun K711 hK711 => ?_
                  refine W.regionT [(0, true), (1, true), (2, true), (3, false), (4, true)] (by kernel_rfl) ?_
                  refine Plan.move_ptr rfl rfl ?_
                  refine Plan.move_slice rfl rfl ?_
                  refine Plan.move_int rfl rfl ?_
                  have h712 := St.pickT (C := [_, _, _, _, _]) h710 [1, 2, 3, 4, 0] (by decide)
                  simp only [pick, List.filterMap_cons, List.filterMap_nil, List.getElem?_cons_zero, List.getElem?_cons_succ, List.cons_append, List.nil_append] at h712
                  obtain ⟨x_714, x_715, x_716, hr713, hR⟩ := hR
                  refine Plan.call (vs := [.pointer (some ⟨b0_24, 0, none⟩), .slice al_687 l_687.length cl_687, .int .i64 k704]) rfl FNetIsBag.call47 rfl (lethelaw23_brought_ok (w0 := w0) (LP := L) (by exact fun r hr => List.mem_append_right [] ((fun _ h => h) r hr)) (by exact hl_687) hr713 (show St B (w0.on [mapR kvI (D60.at L) [] mw0_2_25 mp686]) _ _ from h712)) ?_
                  rintro _ w718 ⟨C718, Fql_6_717, rfl, h718, hf718_0⟩
                  replace h718 : St B (w0.on [mapR kvI (D60.at (C718 ++ L)) [] mw0_2_25 x_715]) _ _ := h718
                  try dsimp only at hf718_0
                  replace h718 := St.pool (N := [_, _, _, _, _]) (R := []) h718
                  obtain ⟨L, hL719⟩ : ∃ X, X = C718 ++ L := ⟨_, rfl⟩
                  have h719 := St.re (N := [_, _, _, _, _]) hL719 h718
                  simp only [List.cons_append, List.nil_append] at h719
                  replace hFr : Fr2 _ _ L L := hFr.step hL719 hL719
                  replace hFj419 : Fr2 _ _ L L := hFj419.step hL719 hL719
                  replace hFj691 : Fr2 _ _ L L := hFj691.step hL719 hL719
                  have h721 := St.eqM (A' := L) h719 (i := 0) rfl hL719
                  simp only [List.set_cons_zero, List.set_cons_succ] at h721
                  have ho722 : LO (D93.at L) [] al_687 pl_687 l_687.length cl_687 Fql_6_717 x_716 := LO.grow D93_lifts (fun r hr => (by rw [hL719]; exact hr)) hf718_0
                  refine ⟨_, rfl, .inl ⟨PIn.keep PIn.nil h721, ?_⟩⟩
                  refine Plan.not rfl rfl ?_
                  refine Plan.nil ?_
                  refine hK711 _ _ ?_; clear hK711
                  by_cases hc723 : x_714 = true
                  ·
                    replace hR := ifT hR hc723
                    refine W.condF (congrArg Value.bool (congrArg Bool.not hc723)) ?_
                    refine W.skip ?_
                    refine blockR_norm ?_
                    refine hK697 _ _ ?_; clear hK697
                    refine W.regionT [(0, true), (1, true), (2, true)] (by kernel_rfl) ?_
                    refine Plan.move_int rfl rfl ?_
                    obtain ⟨hc724, hR⟩ := hR
                    refine Plan.addN (a := i_688) (b := 1) rfl rfl rfl (by omega) ?_
                    refine Plan.assign_int rfl rfl ?_
                    refine Plan.nil ?_
                    have h725 := St.pickT (C := [_, _, _, _, _]) h721 [4, 0, 1, 2, 3] (by decide)
                    simp only [pick, List.filterMap_cons, List.filterMap_nil, List.getElem?_cons_zero, List.getElem?_cons_succ, List.cons_append, List.nil_append] at h725
                    obtain ⟨CF726, hx726, hy726⟩ := hFj691
                    exact iterR_norm ⟨_, hR, CF726, L, hx726, L, rfl, l_687.length, al_687, pl_687, cl_687, Fql_6_717, (EnvHas.cons rfl (EnvHas.cons rfl (EnvHas.cons rfl (EnvHas.cons rfl EnvHas.nil)))), h725, ho722⟩
                  ·
                    replace hR := ifF hR hc723
                    refine W.condT (congrArg Value.bool (congrArg Bool.not (Bool.eq_false_iff.2 hc723))) ?_
                    refine W.seq_k fun K727 hK727 => ?_
                    refine W.regionT [(0, true)] (by kernel_rfl) ?_
                    refine Plan.assign_bool rfl rfl ?_
                    refine Plan.nil ?_
                    refine hK727 _ _ ?_; clear hK727
                    refine W.ret (blockR_ret (thenR_ret (iterR_ret (blockR_ret (thenR_ret (thenR_ret (finR_ret ?_)))))))
                    have h728 := St.pickT (C := [_, _, _, _, _]) h721 [] (by decide)
                    simp only [pick, List.filterMap_cons, List.filterMap_nil, List.getElem?_cons_zero, List.getElem?_cons_succ, List.cons_append, List.nil_append] at h728
                    have h729 : St B w0 _ _ := St.mpick (N := [mapR kvI (D60.at L) [] mw0_2_25 x_715]) (N' := []) h728 [] (by decide) rfl
                    replace hR := hR.2
                    subst r
                    refine RetOk.mk (.tmp_bool rfl .nil) ?_
                    obtain ⟨CF, hx1, hx2⟩ := hFr
                    subst hx1
                    have hdr := St.dropC (N := []) h729
                    exact ⟨rfl, hdr⟩
              ·
                replace hR := ifF hR hc696
                refine W.condF (congrArg Value.bool (decide_eq_false hc696)) ?_
                refine W.exit (thenR_exit (iterR_exit (blockR_here ?_)))
                obtain ⟨CF730, hx730, hy730⟩ := hFj691
                exact ⟨mp686, l_687, (hx691 _ hR).symm, CF730, L, hx730, L, rfl, l_687.length, al_687, pl_687, cl_687, Fl_687, (EnvHas.cons rfl (EnvHas.cons rfl EnvHas.nil)), h692, hl_687⟩
            ·
              rintro ev731 wl731 ⟨y_mp689, y_l_690, hy731, CG731, LG731, hlg731, L, hLe731, n_l_690, al_690, pl_690, cl_690, Fl_690, he731, h731, hl_690⟩
              obtain ⟨ev731, rfl⟩ := he731.open
              replace hR := hR0691 y_mp689 y_l_690 hy731
              obtain ⟨mp689, e_mp689⟩ : ∃ z, z = y_mp689 := ⟨_, rfl⟩; subst e_mp689
              obtain ⟨l_690, e_l_690⟩ : ∃ z, z = y_l_690 := ⟨_, rfl⟩; subst e_l_690
              obtain rfl : List.length (α := (Int × Int × Int × (List Byte) × Bool)) l_690 = n_l_690 := hl_690.hl
              have hL731 := hLe731.trans hlg731
              replace hFr : Fr2 _ _ L L := hFr.step hL731 hL731
              replace hFj419 : Fr2 _ _ L L := hFj419.step hL731 hL731
              replace hFj691 : Fr2 _ _ L L := hFj691.step hL731 hL731
              refine hK616 _ _ ?_; clear hK616
              refine W.seq_k fun K733 hK733 => ?_
              refine W.regionT [(0, true), (1, false), (2, true), (3, true), (4, true), (5, true), (6, false), (7, true), (8, true), (9, true), (10, true), (11, true)] (by kernel_rfl) ?_
              refine Plan.move_ptr rfl rfl ?_
              have h734 := St.pickT (C := [_, _, _, _, _]) h731 [1, 2, 3, 4, 0] (by decide)
              simp only [pick, List.filterMap_cons, List.filterMap_nil, List.getElem?_cons_zero, List.getElem?_cons_succ, List.cons_append, List.nil_append] at h734
              obtain ⟨x_736, hr735, hR⟩ := hR
              refine Plan.call (vs := [.pointer (some ⟨b0_24, 0, none⟩)]) rfl FNetIsBag.call32 rfl (net_Net_Flights_ok (w0 := w0) (LP := L) (by exact fun r hr => List.mem_append_right [_] ((fun _ h => h) r hr)) hr735 (show St B (w0.on [mapR kvI (D60.at L) [] mw0_2_25 mp689]) _ _ from h734)) ?_
              rintro _ w742 ⟨C742, ay0_737, py0_738, ny0_739, cy0_740, Fy0_741, rfl, h742, hf742_0⟩
              replace h742 : St B (w0.on [mapR kvI (D60.at (C742 ++ L)) [] mw0_2_25 mp689]) _ _ := h742
              replace h742 := St.pool (N := [_, _, _, _, _]) (R := [_]) h742
              obtain ⟨L, hL743⟩ : ∃ X, X = C742 ++ L := ⟨_, rfl⟩
              have h743 := St.re (N := [_, _, _, _, _, _]) hL743 h742
              simp only [List.cons_append, List.nil_append] at h743
              replace hFr : Fr2 _ _ L L := hFr.step hL743 hL743
              replace hFj419 : Fr2 _ _ L L := hFj419.step hL743 hL743
              replace hFj691 : Fr2 _ _ L L := hFj691.step hL743 hL743
              have ho744 : LO (D93.at L) [] al_690 pl_690 ((l_690).length) cl_690 Fl_690 l_690 := by rw [hL743]; exact LO.grow D93_lifts (fun r hr => List.mem_append_right _ hr) hl_690
              have h746 := St.eqM (A' := L) h743 (i := 0) rfl hL743
              simp only [List.set_cons_zero, List.set_cons_succ] at h746
              obtain rfl := hf742_0.hl
              have hd742_0 : LO (D60.at L) [] ay0_737 py0_738 (x_736).length cy0_740 Fy0_741 x_736 := LO.grow D60_lifts (fun r hr => (by rw [hL743]; exact hr)) hf742_0
              refine ⟨_, rfl, .inl ⟨PIn.keep PIn.nil h746, ?_⟩⟩
              refine Plan.len FNetIsBag.isl57 rfl rfl ?_
              by_cases hc747 : x_736.length = 0
              ·
                replace hR := ifT hR hc747
                refine Plan.cmpV (a := (((x_736.length : Nat) : Int) : Int)) (b := (0 : Int)) (p := x_736.length = 0) (v := true) rfl rfl rfl rfl icmp_eqN (decide_eq_true hc747) ?_
                refine Plan.move_bool rfl rfl ?_
                refine Plan.move_ptr rfl rfl ?_
                have h748 := St.pickT (C := [_, _, _, _, _, _]) h746 [1, 2, 3, 4, 0, 5] (by decide)
                simp only [pick, List.filterMap_cons, List.filterMap_nil, List.getElem?_cons_zero, List.getElem?_cons_succ, List.cons_append, List.nil_append] at h748
                obtain ⟨x_750, hr749, hR⟩ := hR
                refine Plan.call (vs := [.pointer (some ⟨b0_24, 0, none⟩)]) rfl FNetIsBag.call45 rfl (net_Net_Next_ok (w0 := w0) (LP := L) (by exact fun r hr => List.mem_append_right [_, _] ((fun _ h => h) r hr)) hr749 (show St B (w0.on [mapR kvI (D60.at L) [] mw0_2_25 mp689]) _ _ from h748)) ?_
                rintro _ w751 ⟨C751, rfl, h751⟩
                replace h751 : St B (w0.on [mapR kvI (D60.at (C751 ++ L)) [] mw0_2_25 mp689]) _ _ := h751
                replace h751 := St.pool (N := [_, _, _, _]) (R := [_, _]) h751
                obtain ⟨L, hL752⟩ : ∃ X, X = C751 ++ L := ⟨_, rfl⟩
                have h752 := St.re (N := [_, _, _, _, _, _]) hL752 h751
                simp only [List.cons_append, List.nil_append] at h752
                replace hFr : Fr2 _ _ L L := hFr.step hL752 hL752
                replace hFj419 : Fr2 _ _ L L := hFj419.step hL752 hL752
                replace hFj691 : Fr2 _ _ L L := hFj691.step hL752 hL752
                have ho753 : LO (D60.at L) [] ay0_737 py0_738 ((x_736).length) cy0_740 Fy0_741 x_736 := by rw [hL752]; exact LO.grow D60_lifts (fun r hr => List.mem_append_right _ hr) hd742_0
                have ho754 : LO (D93.at L) [] al_690 pl_690 ((l_690).length) cl_690 Fl_690 l_690 := by rw [hL752]; exact LO.grow D93_lifts (fun r hr => List.mem_append_right _ hr) ho744
                have h756 := St.eqM (A' := L) h752 (i := 0) rfl hL752
                simp only [List.set_cons_zero, List.set_cons_succ] at h756
                refine ⟨_, rfl, .inl ⟨PIn.keep PIn.nil h756, ?_⟩⟩
                refine Plan.move_slice rfl rfl ?_
                refine Plan.len FNetIsBag.isl94 rfl rfl ?_
                refine Plan.cmpP (a := (x_750 : Int)) (b := (((l_690.length : Nat) : Int) : Int)) (p := x_750 = ((l_690.length : Nat) : Int)) rfl rfl rfl rfl icmp_eq ?_
                refine Plan.pickTb rfl rfl rfl ?_
                refine Plan.assign_bool rfl rfl ?_
                refine Plan.nil ?_
                refine hK733 _ _ ?_; clear hK733
                refine W.ret (finR_ret ?_)
                have h757 := St.pickT (C := [_, _, _, _, _, _]) h756 [] (by decide)
                simp only [pick, List.filterMap_cons, List.filterMap_nil, List.getElem?_cons_zero, List.getElem?_cons_succ, List.cons_append, List.nil_append] at h757
                have h758 : St B w0 _ _ := St.mpick (N := [mapR kvI (D60.at L) [] mw0_2_25 mp689]) (N' := []) h757 [] (by decide) rfl
                subst r
                refine RetOk.mk (.tmp_bool rfl .nil) ?_
                obtain ⟨CF, hx1, hx2⟩ := hFr
                subst hx1
                have hdr := St.dropC (N := []) h758
                exact ⟨rfl, hdr⟩
              ·
                replace hR := ifF hR hc747
                refine Plan.cmpV (a := (((x_736.length : Nat) : Int) : Int)) (b := (0 : Int)) (p := x_736.length = 0) (v := false) rfl rfl rfl rfl icmp_eqN (decide_eq_false hc747) ?_
                refine Plan.move_bool rfl rfl ?_
                refine Plan.passed rfl ?_
                refine Plan.passed rfl ?_
                refine Plan.passed rfl ?_
                refine Plan.passed rfl ?_
                refine Plan.passed rfl ?_
                refine Plan.pickFb rfl rfl rfl ?_
                refine Plan.assign_bool rfl rfl ?_
                refine Plan.nil ?_
                refine hK733 _ _ ?_; clear hK733
                refine W.ret (finR_ret ?_)
                have h759 := St.pickT (C := [_, _, _, _, _, _]) h746 [] (by decide)
                simp only [pick, List.filterMap_cons, List.filterMap_nil, List.getElem?_cons_zero, List.getElem?_cons_succ, List.cons_append, List.nil_append] at h759
                have h760 : St B w0 _ _ := St.mpick (N := [mapR kvI (D60.at L) [] mw0_2_25 mp689]) (N' := []) h759 [] (by decide) rfl
                subst r
                refine RetOk.mk (.tmp_bool rfl .nil) ?_
                obtain ⟨CF, hx1, hx2⟩ := hFr
                subst hx1
                have hdr := St.dropC (N := []) h760
                exact ⟨rfl, hdr⟩

end Go.Proofs.Ytbkgblhmlenocaa
