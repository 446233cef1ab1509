/-
  WALKS of the package's functions, printed by this session's own program (auto.py).
-/
import Derived.Test.YtbkgblhmlenocaaProg
import Derived.Test.YtbkgblhmlenocaaEd
import Derived.Test.YtbkgblhmlenocaaRNetExact
import Derived.Test.YtbkgblhmlenocaaEls
import Derived.Test.YtbkgblhmlenocaaWLaw23
import Derived.Test.YtbkgblhmlenocaaWNet
import Derived.Test.YtbkgblhmlenocaaWRef23
namespace Go.Proofs.Ytbkgblhmlenocaa
set_option linter.unusedSimpArgs false
set_option linter.unusedVariables false
set_option linter.unusedSectionVars false
open Go Go.LW
theorem FNetExact.call29 : callB Try.prog 29 = true := by kernel_rfl
theorem FNetExact.call41 : callB Try.prog 41 = true := by kernel_rfl
theorem FNetExact.ptr51 : ptrB Try.prog 51 = true := by kernel_rfl
theorem FNetExact.ptr84 : ptrB Try.prog 84 = true := by kernel_rfl
theorem FNetExact.bool4 : boolB Try.prog 4 = true := by kernel_rfl
theorem FNetExact.isl83 : ∃ el, Try.prog.underlying 83 = some (.slice el) := ⟨89, by kernel_rfl⟩
theorem FNetExact.sl83 : slB Try.prog 83 5 = true := by kernel_rfl
theorem FNetExact.agg89 : aggT Try.prog 89 5 = true := by kernel_rfl
theorem FNetExact.call32 : callB Try.prog 32 = true := by kernel_rfl
theorem FNetExact.call44 : callB Try.prog 44 = true := by kernel_rfl
theorem FNetExact.call43 : callB Try.prog 43 = true := by kernel_rfl
theorem FNetExact.call45 : callB Try.prog 45 = true := by kernel_rfl
theorem FNetExact.call46 : callB Try.prog 46 = true := by kernel_rfl
theorem FNetExact.call42 : callB Try.prog 42 = true := by kernel_rfl

set_option maxRecDepth 8000 in
set_option maxHeartbeats 1000000 in
theorem lethelaw23_NetExact_ok {B : Nat} {w0 : Base} {w : World} {L : List Rg} {nodes1 : Int} {most2 : Int} {script3 : List (Int × Int × Int × Int × (List Byte))} {ascript3 : Option Addr} {nscript3 cscript3 iscript3 : Nat} (hscript3 : LV (D89.at L) L iscript3 ascript3 nscript3 cscript3 script3) {r : Bool} (hR : lethelaw23_NetExact nodes1 most2 script3 r) (HST : St B w0 (L) w) :
    Calls Try.prog 9 #[.int .i64 nodes1, .int .i64 most2, .slice ascript3 nscript3 cscript3] w fun e w' => e = .returned (.bool r) ∧ St B w0 (L) w' := by
  refine W.enter 84 Try.func9 rfl rfl rfl ?_
  unfold lethelaw23_NetExact at hR
  have hFr : Fr2 L L L L := Fr2.refl _ _
  have escript3 := hscript3.hl; subst escript3
  refine W.seq_k fun K4 hK4 => ?_
  refine W.regionT [(0, true)] (by kernel_rfl) ?_
  refine Plan.assign_bool rfl rfl ?_
  refine Plan.nil ?_
  refine hK4 _ _ ?_; clear hK4
  refine W.seq_k fun K5 hK5 => ?_
  refine W.regionT [(0, true), (1, true), (2, false), (3, true), (4, true), (5, true), (6, true), (7, true)] (by kernel_rfl) ?_
  refine Plan.move_int rfl rfl ?_
  refine Plan.move_int rfl rfl ?_
  rcases hR with ⟨x_7, hr6, hR⟩ | ⟨x_8, x_9, x_10, x_11, x_12, hr6, hR⟩
  ·
    refine Plan.call (vs := [.int .i64 nodes1, .int .i64 most2]) rfl FNetExact.call29 rfl (net_New_ok (LP := L) (by exact fun r hr => List.mem_append_right [] ((fun _ h => h) r hr)) hr6 HST) ?_
    rintro _ w13 ⟨C13, rfl, h13⟩
    replace h13 := St.pool (N := []) (R := []) h13
    obtain ⟨L, hL14⟩ : ∃ X, X = C13 ++ L := ⟨_, rfl⟩
    have h14 := St.re (N := []) hL14 h13
    replace hFr : Fr2 _ _ L L := hFr.step hL14 hL14
    obtain ⟨ix15, hv15⟩ : ∃ i, LV (D89.at L) L i ascript3 script3.length cscript3 script3 := ⟨_, by rw [hL14]; exact (LV.grow D89_lifts (fun r hr => List.mem_append_right _ hr) hscript3).app _⟩
    refine ⟨_, rfl, .inl ⟨PIn.keep PIn.nil h14, ?_⟩⟩
    refine Plan.move_tuple rfl rfl ?_
    refine Plan.extract_ptr rfl rfl rfl ?_
    refine Plan.extract_int rfl rfl rfl ?_
    refine Plan.assign_ptr rfl rfl ?_
    refine Plan.assign_int rfl rfl ?_
    refine Plan.nil ?_
    refine hK5 _ _ ?_; clear hK5
    refine W.seq_k fun K16 hK16 => ?_
    refine W.regionT [(0, true), (1, true), (2, false), (3, true), (4, true), (5, true), (6, true), (7, true)] (by kernel_rfl) ?_
    refine Plan.move_int rfl rfl ?_
    refine Plan.move_int rfl rfl ?_
    rcases hR with ⟨x_18, hr17, hR⟩ | ⟨x_19, x_20, x_21, x_22, x_23, hr17, hR⟩
    ·
      refine Plan.call (vs := [.int .i64 nodes1, .int .i64 most2]) rfl FNetExact.call41 rfl (letheref23_New_ok (LP := L) (by exact fun r hr => List.mem_append_right [] ((fun _ h => h) r hr)) hr17 h14) ?_
      rintro _ w24 ⟨C24, rfl, h24⟩
      replace h24 := St.pool (N := []) (R := []) h24
      obtain ⟨L, hL25⟩ : ∃ X, X = C24 ++ L := ⟨_, rfl⟩
      have h25 := St.re (N := []) hL25 h24
      replace hFr : Fr2 _ _ L L := hFr.step hL25 hL25
      obtain ⟨ix26, hv26⟩ : ∃ i, LV (D89.at L) L i ascript3 script3.length cscript3 script3 := ⟨_, by rw [hL25]; exact (LV.grow D89_lifts (fun r hr => List.mem_append_right _ hr) hv15).app _⟩
      refine ⟨_, rfl, .inl ⟨PIn.keep PIn.nil h25, ?_⟩⟩
      refine Plan.move_tuple rfl rfl ?_
      refine Plan.extract_ptr rfl rfl rfl ?_
      refine Plan.extract_int rfl rfl rfl ?_
      refine Plan.assign_ptr rfl rfl ?_
      refine Plan.assign_int rfl rfl ?_
      refine Plan.nil ?_
      refine hK16 _ _ ?_; clear hK16
      refine W.seq_k fun K27 hK27 => ?_
      refine W.seq_k fun K33 hK33 => ?_
      refine W.regionT [(0, true), (1, true), (2, true), (3, true), (4, true), (5, true), (6, true), (7, true), (8, true), (9, true)] (by kernel_rfl) ?_
      refine Plan.move_int rfl rfl ?_
      refine Plan.move_int rfl rfl ?_
      by_cases hc34 : x_7 ≠ x_18
      ·
        replace hR := ifT hR hc34
        refine Plan.cmpV (a := (((x_7 : Nat) : Int) : Int)) (b := (((x_18 : Nat) : Int) : Int)) (p := x_7 ≠ x_18) (v := true) rfl rfl rfl rfl icmp_neN (decide_eq_true hc34) ?_
        refine Plan.move_bool rfl rfl ?_
        refine Plan.passed rfl ?_
        refine Plan.passed rfl ?_
        refine Plan.passed rfl ?_
        refine Plan.passed rfl ?_
        refine Plan.passed rfl ?_
        refine Plan.pickTb rfl rfl rfl ?_
        refine Plan.nil ?_
        refine hK33 _ _ ?_; clear hK33
        refine W.condT rfl ?_
        refine W.seq_k fun K35 hK35 => ?_
        refine W.regionT [(0, true)] (by kernel_rfl) ?_
        refine Plan.assign_bool rfl rfl ?_
        refine Plan.nil ?_
        refine hK35 _ _ ?_; clear hK35
        refine W.ret (thenR_ret (finR_ret ?_))
        subst r
        refine RetOk.mk (.tmp_bool rfl .nil) ?_
        obtain ⟨CF, hx1, hx2⟩ := hFr
        subst hx1
        have hdr := St.dropC (N := []) h25
        exact ⟨rfl, hdr⟩
      ·
        replace hR := ifF hR hc34
        refine Plan.cmpV (a := (((x_7 : Nat) : Int) : Int)) (b := (((x_18 : Nat) : Int) : Int)) (p := x_7 ≠ x_18) (v := false) rfl rfl rfl rfl icmp_neN (decide_eq_false hc34) ?_
        refine Plan.move_bool rfl rfl ?_
        refine Plan.move_ptr rfl rfl ?_
        refine Plan.eqNil (b := true) FNetExact.ptr51 rfl rfl rfl rfl ?_
        refine Plan.move_ptr rfl rfl ?_
        refine Plan.eqNil (b := true) FNetExact.ptr84 rfl rfl rfl rfl ?_
        refine Plan.neBoolV (v := (true != true)) FNetExact.bool4 rfl rfl rfl rfl ?_
        refine Plan.pickFb rfl rfl rfl ?_
        refine Plan.nil ?_
        refine hK33 _ _ ?_; clear hK33
        by_cases hc36 : (true != true) = true
        ·
          replace hR := ifT hR hc36
          refine W.condT (congrArg Value.bool hc36) ?_
          refine W.seq_k fun K37 hK37 => ?_
          refine W.regionT [(0, true)] (by kernel_rfl) ?_
          refine Plan.assign_bool rfl rfl ?_
          refine Plan.nil ?_
          refine hK37 _ _ ?_; clear hK37
          refine W.ret (thenR_ret (finR_ret ?_))
          subst r
          refine RetOk.mk (.tmp_bool rfl .nil) ?_
          obtain ⟨CF, hx1, hx2⟩ := hFr
          subst hx1
          have hdr := St.dropC (N := []) h25
          exact ⟨rfl, hdr⟩
        ·
          replace hR := ifF hR hc36
          refine W.condF (congrArg Value.bool (Bool.eq_false_iff.2 hc36)) ?_
          refine W.skip ?_
          refine hK27 _ _ ?_; clear hK27
          refine W.seq_k fun K38 hK38 => ?_
          refine W.seq_k fun K125 hK125 => ?_
          refine W.regionT [(0, true), (1, true)] (by kernel_rfl) ?_
          refine Plan.move_ptr rfl rfl ?_
          refine Plan.eqNil (b := true) FNetExact.ptr51 rfl rfl rfl rfl ?_
          refine Plan.nil ?_
          refine hK125 _ _ ?_; clear hK125
          refine W.condT rfl ?_
          refine W.seq_k fun K126 hK126 => ?_
          refine W.regionT [(0, false), (1, true), (2, true), (3, true), (4, true), (5, true)] (by kernel_rfl) ?_
          rcases hR with ⟨x_128, hr127, hR⟩ | ⟨x_129, x_130, x_131, x_132, x_133, hr127, hR⟩
          ·
            refine Plan.call (vs := [VN 2, VN 3]) rfl FNetExact.call29 rfl (net_New_ok (LP := L) (by exact fun r hr => List.mem_append_right [] ((fun _ h => h) r hr)) hr127 h25) ?_
            rintro _ w134 ⟨C134, rfl, h134⟩
            replace h134 := St.pool (N := []) (R := []) h134
            obtain ⟨L, hL135⟩ : ∃ X, X = C134 ++ L := ⟨_, rfl⟩
            have h135 := St.re (N := []) hL135 h134
            replace hFr : Fr2 _ _ L L := hFr.step hL135 hL135
            obtain ⟨ix136, hv136⟩ : ∃ i, LV (D89.at L) L i ascript3 script3.length cscript3 script3 := ⟨_, by rw [hL135]; exact (LV.grow D89_lifts (fun r hr => List.mem_append_right _ hr) hv26).app _⟩
            refine ⟨_, rfl, .inl ⟨PIn.keep PIn.nil h135, ?_⟩⟩
            refine Plan.move_tuple rfl rfl ?_
            refine Plan.extract_ptr rfl rfl rfl ?_
            refine Plan.extract_int rfl rfl rfl ?_
            refine Plan.assign_ptr rfl rfl ?_
            refine Plan.assign_int rfl rfl ?_
            refine Plan.nil ?_
            refine hK126 _ _ ?_; clear hK126
            refine W.seq_k fun K137 hK137 => ?_
            refine W.regionT [(0, false), (1, true), (2, true), (3, true), (4, true), (5, true)] (by kernel_rfl) ?_
            rcases hR with ⟨x_139, hr138, hR⟩ | ⟨x_140, x_141, x_142, x_143, x_144, hr138, hR⟩
            ·
              refine Plan.call (vs := [VN 2, VN 3]) rfl FNetExact.call41 rfl (letheref23_New_ok (LP := L) (by exact fun r hr => List.mem_append_right [] ((fun _ h => h) r hr)) hr138 h135) ?_
              rintro _ w145 ⟨C145, rfl, h145⟩
              replace h145 := St.pool (N := []) (R := []) h145
              obtain ⟨L, hL146⟩ : ∃ X, X = C145 ++ L := ⟨_, rfl⟩
              have h146 := St.re (N := []) hL146 h145
              replace hFr : Fr2 _ _ L L := hFr.step hL146 hL146
              obtain ⟨ix147, hv147⟩ : ∃ i, LV (D89.at L) L i ascript3 script3.length cscript3 script3 := ⟨_, by rw [hL146]; exact (LV.grow D89_lifts (fun r hr => List.mem_append_right _ hr) hv136).app _⟩
              refine ⟨_, rfl, .inl ⟨PIn.keep PIn.nil h146, ?_⟩⟩
              refine Plan.move_tuple rfl rfl ?_
              refine Plan.extract_ptr rfl rfl rfl ?_
              refine Plan.extract_int rfl rfl rfl ?_
              refine Plan.assign_ptr rfl rfl ?_
              refine Plan.assign_int rfl rfl ?_
              refine Plan.nil ?_
              refine hK137 _ _ ?_; clear hK137
              refine W.seq_k fun K148 hK148 => ?_
              refine W.regionT [(0, true), (1, true), (2, true), (3, true), (4, true), (5, true), (6, true), (7, true), (8, true), (9, true)] (by kernel_rfl) ?_
              refine Plan.move_int rfl rfl ?_
              by_cases hc149 : x_128 ≠ 0
              ·
                replace hR := ifT hR hc149
                refine Plan.cmpV (a := (((x_128 : Nat) : Int) : Int)) (b := (0 : Int)) (p := x_128 ≠ 0) (v := true) rfl rfl rfl rfl icmp_neN (decide_eq_true hc149) ?_
                refine Plan.move_bool rfl rfl ?_
                refine Plan.passed rfl ?_
                refine Plan.passed rfl ?_
                refine Plan.pickTb rfl rfl rfl ?_
                refine Plan.move_bool rfl rfl ?_
                refine Plan.passed rfl ?_
                refine Plan.passed rfl ?_
                refine Plan.pickTb rfl rfl rfl ?_
                refine Plan.nil ?_
                refine hK148 _ _ ?_; clear hK148
                refine W.condT rfl ?_
                refine W.seq_k fun K150 hK150 => ?_
                refine W.regionT [(0, true)] (by kernel_rfl) ?_
                refine Plan.assign_bool rfl rfl ?_
                refine Plan.nil ?_
                refine hK150 _ _ ?_; clear hK150
                refine W.ret (thenR_ret (finR_ret ?_))
                subst r
                refine RetOk.mk (.tmp_bool rfl .nil) ?_
                obtain ⟨CF, hx1, hx2⟩ := hFr
                subst hx1
                have hdr := St.dropC (N := []) h146
                exact ⟨rfl, hdr⟩
              ·
                replace hR := ifF hR hc149
                refine Plan.cmpV (a := (((x_128 : Nat) : Int) : Int)) (b := (0 : Int)) (p := x_128 ≠ 0) (v := false) rfl rfl rfl rfl icmp_neN (decide_eq_false hc149) ?_
                refine Plan.move_bool rfl rfl ?_
                refine Plan.move_ptr rfl rfl ?_
                refine Plan.eqNil (b := true) FNetExact.ptr51 rfl rfl rfl rfl ?_
                refine Plan.pickFb rfl rfl rfl ?_
                refine Plan.move_bool rfl rfl ?_
                refine Plan.passed rfl ?_
                refine Plan.passed rfl ?_
                refine Plan.pickTb rfl rfl rfl ?_
                refine Plan.nil ?_
                refine hK148 _ _ ?_; clear hK148
                refine W.condT rfl ?_
                refine W.seq_k fun K151 hK151 => ?_
                refine W.regionT [(0, true)] (by kernel_rfl) ?_
                refine Plan.assign_bool rfl rfl ?_
                refine Plan.nil ?_
                refine hK151 _ _ ?_; clear hK151
                refine W.ret (thenR_ret (finR_ret ?_))
                subst r
                refine RetOk.mk (.tmp_bool rfl .nil) ?_
                obtain ⟨CF, hx1, hx2⟩ := hFr
                subst hx1
                have hdr := St.dropC (N := []) h146
                exact ⟨rfl, hdr⟩
            ·
              refine Plan.call (vs := [VN 2, VN 3]) rfl FNetExact.call41 rfl (letheref23_New_ok (LP := L) (by exact fun r hr => List.mem_append_right [] ((fun _ h => h) r hr)) hr138 h135) ?_
              rintro _ w158 ⟨C158, b0_152, aw0_2_153, pw0_2_154, nw0_2_155, cw0_2_156, Fw0_2_157, rfl, h158, hf158_0⟩
              try dsimp only at hf158_0
              obtain rfl := hf158_0.hl
              replace h158 := St.pool (N := [_, _, _, _, _]) (R := []) h158
              obtain ⟨L, hL159⟩ : ∃ X, X = C158 ++ L := ⟨_, rfl⟩
              have h159 := St.re (N := [_, _, _, _, _]) hL159 h158
              simp only [List.cons_append, List.nil_append] at h159
              replace hFr : Fr2 _ _ L L := hFr.step hL159 hL159
              obtain ⟨ix160, hv160⟩ : ∃ i, LV (D89.at L) L i ascript3 script3.length cscript3 script3 := ⟨_, by rw [hL159]; exact (LV.grow D89_lifts (fun r hr => List.mem_append_right _ hr) hv136).app _⟩
              have ho161 : LO (D60.at L) [] aw0_2_153 pw0_2_154 ((x_142).length) cw0_2_156 Fw0_2_157 x_142 := LO.grow D60_lifts (fun r hr => (by rw [hL159]; exact hr)) hf158_0
              refine ⟨_, rfl, .inl ⟨PIn.keep PIn.nil h159, ?_⟩⟩
              refine Plan.move_tuple rfl rfl ?_
              refine Plan.extract_ptr rfl rfl rfl ?_
              refine Plan.extract_int rfl rfl rfl ?_
              refine Plan.assign_ptr rfl rfl ?_
              refine Plan.assign_int rfl rfl ?_
              refine Plan.nil ?_
              refine hK137 _ _ ?_; clear hK137
              refine W.seq_k fun K162 hK162 => ?_
              refine W.regionT [(0, true), (1, true), (2, true), (3, true), (4, true), (5, true), (6, true), (7, true), (8, true), (9, true)] (by kernel_rfl) ?_
              refine Plan.move_int rfl rfl ?_
              by_cases hc163 : x_128 ≠ 0
              ·
                replace hR := ifT hR hc163
                refine Plan.cmpV (a := (((x_128 : Nat) : Int) : Int)) (b := (0 : Int)) (p := x_128 ≠ 0) (v := true) rfl rfl rfl rfl icmp_neN (decide_eq_true hc163) ?_
                refine Plan.move_bool rfl rfl ?_
                refine Plan.passed rfl ?_
                refine Plan.passed rfl ?_
                refine Plan.pickTb rfl rfl rfl ?_
                refine Plan.move_bool rfl rfl ?_
                refine Plan.passed rfl ?_
                refine Plan.passed rfl ?_
                refine Plan.pickTb rfl rfl rfl ?_
                refine Plan.nil ?_
                refine hK162 _ _ ?_; clear hK162
                refine W.condT rfl ?_
                refine W.seq_k fun K164 hK164 => ?_
                refine W.regionT [(0, true)] (by kernel_rfl) ?_
                refine Plan.assign_bool rfl rfl ?_
                refine Plan.nil ?_
                refine hK164 _ _ ?_; clear hK164
                refine W.ret (thenR_ret (finR_ret ?_))
                have h165 := St.pickT (C := [_, _, _, _, _]) h159 [] (by decide)
                simp only [pick, List.filterMap_cons, List.filterMap_nil, List.getElem?_cons_zero, List.getElem?_cons_succ, List.cons_append, List.nil_append] at h165
                subst r
                refine RetOk.mk (.tmp_bool rfl .nil) ?_
                obtain ⟨CF, hx1, hx2⟩ := hFr
                subst hx1
                have hdr := St.dropC (N := []) h165
                exact ⟨rfl, hdr⟩
              ·
                replace hR := ifF hR hc163
                refine Plan.cmpV (a := (((x_128 : Nat) : Int) : Int)) (b := (0 : Int)) (p := x_128 ≠ 0) (v := false) rfl rfl rfl rfl icmp_neN (decide_eq_false hc163) ?_
                refine Plan.move_bool rfl rfl ?_
                refine Plan.move_ptr rfl rfl ?_
                refine Plan.eqNil (b := true) FNetExact.ptr51 rfl rfl rfl rfl ?_
                refine Plan.pickFb rfl rfl rfl ?_
                refine Plan.move_bool rfl rfl ?_
                refine Plan.passed rfl ?_
                refine Plan.passed rfl ?_
                refine Plan.pickTb rfl rfl rfl ?_
                refine Plan.nil ?_
                refine hK162 _ _ ?_; clear hK162
                refine W.condT rfl ?_
                refine W.seq_k fun K166 hK166 => ?_
                refine W.regionT [(0, true)] (by kernel_rfl) ?_
                refine Plan.assign_bool rfl rfl ?_
                refine Plan.nil ?_
                refine hK166 _ _ ?_; clear hK166
                refine W.ret (thenR_ret (finR_ret ?_))
                have h167 := St.pickT (C := [_, _, _, _, _]) h159 [] (by decide)
                simp only [pick, List.filterMap_cons, List.filterMap_nil, List.getElem?_cons_zero, List.getElem?_cons_succ, List.cons_append, List.nil_append] at h167
                subst r
                refine RetOk.mk (.tmp_bool rfl .nil) ?_
                obtain ⟨CF, hx1, hx2⟩ := hFr
                subst hx1
                have hdr := St.dropC (N := []) h167
                exact ⟨rfl, hdr⟩
          ·
            refine Plan.call (vs := [VN 2, VN 3]) rfl FNetExact.call29 rfl (net_New_ok (w0 := w0) (LP := L) (by exact fun r hr => List.mem_append_right [] ((fun _ h => h) r hr)) hr127 h25) ?_
            rintro _ w170 ⟨C170, b0_168, mw0_2_169, rfl, h170⟩
            replace h170 : St B (w0.on [mapR kvI (D60.at (C170 ++ L)) [] mw0_2_169 x_131]) _ _ := h170
            replace h170 := St.pool (N := [_, _, _, _]) (R := []) h170
            obtain ⟨L, hL171⟩ : ∃ X, X = C170 ++ L := ⟨_, rfl⟩
            have h171 := St.re (N := [_, _, _, _]) hL171 h170
            simp only [List.cons_append, List.nil_append] at h171
            replace hFr : Fr2 _ _ L L := hFr.step hL171 hL171
            obtain ⟨ix172, hv172⟩ : ∃ i, LV (D89.at L) L i ascript3 script3.length cscript3 script3 := ⟨_, by rw [hL171]; exact (LV.grow D89_lifts (fun r hr => List.mem_append_right _ hr) hv26).app _⟩
            have h174 := St.eqM (A' := L) h171 (i := 0) rfl hL171
            simp only [List.set_cons_zero, List.set_cons_succ] at h174
            refine ⟨_, rfl, .inl ⟨PIn.keep PIn.nil h174, ?_⟩⟩
            refine Plan.move_tuple rfl rfl ?_
            refine Plan.extract_ptr rfl rfl rfl ?_
            refine Plan.extract_int rfl rfl rfl ?_
            refine Plan.assign_ptr rfl rfl ?_
            refine Plan.assign_int rfl rfl ?_
            refine Plan.nil ?_
            refine hK126 _ _ ?_; clear hK126
            refine W.seq_k fun K175 hK175 => ?_
            refine W.regionT [(0, false), (1, true), (2, true), (3, true), (4, true), (5, true)] (by kernel_rfl) ?_
            rcases hR with ⟨x_177, hr176, hR⟩ | ⟨x_178, x_179, x_180, x_181, x_182, hr176, hR⟩
            ·
              refine Plan.call (vs := [VN 2, VN 3]) rfl FNetExact.call41 rfl (letheref23_New_ok (LP := L) (by exact fun r hr => List.mem_append_right [_, _, _, _] ((fun _ h => h) r hr)) hr176 h174) ?_
              rintro _ w183 ⟨C183, rfl, h183⟩
              replace h183 := St.pool (N := []) (R := [_, _, _, _]) h183
              obtain ⟨L, hL184⟩ : ∃ X, X = C183 ++ L := ⟨_, rfl⟩
              have h184 := St.re (N := [_, _, _, _]) hL184 h183
              simp only [List.cons_append, List.nil_append] at h184
              replace hFr : Fr2 _ _ L L := hFr.step hL184 hL184
              obtain ⟨ix185, hv185⟩ : ∃ i, LV (D89.at L) L i ascript3 script3.length cscript3 script3 := ⟨_, by rw [hL184]; exact (LV.grow D89_lifts (fun r hr => List.mem_append_right _ hr) hv172).app _⟩
              have h186 := St.liftM (LP' := L) h184 (i := 0) rfl D60_lifts (fun r hr => by rw [hL184]; exact List.mem_append_right _ hr)
              simp only [List.set_cons_zero, List.set_cons_succ] at h186
              refine ⟨_, rfl, .inl ⟨PIn.keep PIn.nil h186, ?_⟩⟩
              refine Plan.move_tuple rfl rfl ?_
              refine Plan.extract_ptr rfl rfl rfl ?_
              refine Plan.extract_int rfl rfl rfl ?_
              refine Plan.assign_ptr rfl rfl ?_
              refine Plan.assign_int rfl rfl ?_
              refine Plan.nil ?_
              refine hK175 _ _ ?_; clear hK175
              refine W.seq_k fun K187 hK187 => ?_
              refine W.regionT [(0, true), (1, true), (2, true), (3, true), (4, true), (5, true), (6, true), (7, true), (8, true), (9, true)] (by kernel_rfl) ?_
              refine Plan.move_int rfl rfl ?_
              by_cases hc188 : x_133 ≠ 0
              ·
                replace hR := ifT hR hc188
                refine Plan.cmpV (a := (((x_133 : Nat) : Int) : Int)) (b := (0 : Int)) (p := x_133 ≠ 0) (v := true) rfl rfl rfl rfl icmp_neN (decide_eq_true hc188) ?_
                refine Plan.move_bool rfl rfl ?_
                refine Plan.passed rfl ?_
                refine Plan.passed rfl ?_
                refine Plan.pickTb rfl rfl rfl ?_
                refine Plan.move_bool rfl rfl ?_
                refine Plan.passed rfl ?_
                refine Plan.passed rfl ?_
                refine Plan.pickTb rfl rfl rfl ?_
                refine Plan.nil ?_
                refine hK187 _ _ ?_; clear hK187
                refine W.condT rfl ?_
                refine W.seq_k fun K189 hK189 => ?_
                refine W.regionT [(0, true)] (by kernel_rfl) ?_
                refine Plan.assign_bool rfl rfl ?_
                refine Plan.nil ?_
                refine hK189 _ _ ?_; clear hK189
                refine W.ret (thenR_ret (finR_ret ?_))
                have h190 := St.pickT (C := [_, _, _, _]) h186 [] (by decide)
                simp only [pick, List.filterMap_cons, List.filterMap_nil, List.getElem?_cons_zero, List.getElem?_cons_succ, List.cons_append, List.nil_append] at h190
                have h191 : St B w0 _ _ := St.mpick (N := [mapR kvI (D60.at L) [] mw0_2_169 x_131]) (N' := []) h190 [] (by decide) rfl
                subst r
                refine RetOk.mk (.tmp_bool rfl .nil) ?_
                obtain ⟨CF, hx1, hx2⟩ := hFr
                subst hx1
                have hdr := St.dropC (N := []) h191
                exact ⟨rfl, hdr⟩
              ·
                replace hR := ifF hR hc188
                refine Plan.cmpV (a := (((x_133 : Nat) : Int) : Int)) (b := (0 : Int)) (p := x_133 ≠ 0) (v := false) rfl rfl rfl rfl icmp_neN (decide_eq_false hc188) ?_
                refine Plan.move_bool rfl rfl ?_
                refine Plan.move_ptr rfl rfl ?_
                refine Plan.eqNil (b := false) FNetExact.ptr51 rfl rfl rfl rfl ?_
                refine Plan.pickFb rfl rfl rfl ?_
                refine Plan.move_bool rfl rfl ?_
                refine Plan.move_int rfl rfl ?_
                refine Plan.cmpP (a := (((x_177 : Nat) : Int) : Int)) (b := (0 : Int)) (p := x_177 ≠ 0) rfl rfl rfl rfl icmp_neN ?_
                refine Plan.pickFb rfl rfl rfl ?_
                refine Plan.nil ?_
                refine hK187 _ _ ?_; clear hK187
                by_cases hc192 : x_177 ≠ 0
                ·
                  replace hR := ifT hR hc192
                  refine W.condT (congrArg Value.bool (decide_eq_true hc192)) ?_
                  refine W.seq_k fun K193 hK193 => ?_
                  refine W.regionT [(0, true)] (by kernel_rfl) ?_
                  refine Plan.assign_bool rfl rfl ?_
                  refine Plan.nil ?_
                  refine hK193 _ _ ?_; clear hK193
                  refine W.ret (thenR_ret (finR_ret ?_))
                  have h194 := St.pickT (C := [_, _, _, _]) h186 [] (by decide)
                  simp only [pick, List.filterMap_cons, List.filterMap_nil, List.getElem?_cons_zero, List.getElem?_cons_succ, List.cons_append, List.nil_append] at h194
                  have h195 : St B w0 _ _ := St.mpick (N := [mapR kvI (D60.at L) [] mw0_2_169 x_131]) (N' := []) h194 [] (by decide) rfl
                  subst r
                  refine RetOk.mk (.tmp_bool rfl .nil) ?_
                  obtain ⟨CF, hx1, hx2⟩ := hFr
                  subst hx1
                  have hdr := St.dropC (N := []) h195
                  exact ⟨rfl, hdr⟩
                ·
                  replace hR := ifF hR hc192
                  refine W.condF (congrArg Value.bool (decide_eq_false hc192)) ?_
                  refine W.skip ?_
                  refine hK38 _ _ ?_; clear hK38
                  refine W.seq_k fun K196 hK196 => ?_
                  refine W.seq_k fun K197 hK197 => ?_
                  refine W.regionT [(0, true)] (by kernel_rfl) ?_
                  refine Plan.assign_int rfl rfl ?_
                  refine Plan.nil ?_
                  refine hK197 _ _ ?_; clear hK197
                  obtain ⟨x207, hI207, hR0207⟩ := hR
                  refine W.cutN (fun e w => x207 = some () ∧ EnvHas e [(7, .pointer (some ⟨b0_168, 0, none⟩)), (9, .pointer none)] ∧ St B (w0.on [mapR kvI (D60.at L) [] mw0_2_169 x_131]) (⟨some b0_168, 0, 1, fun _ => .int .i64 x_129, true⟩ :: ⟨some b0_168, 1, 1, fun _ => .int .i64 x_130, true⟩ :: ⟨some b0_168, 2, 1, fun _ => .map (some mw0_2_169), true⟩ :: ⟨some b0_168, 3, 1, fun _ => VN x_132, true⟩ :: L) w) ?_ ?_
                  ·
                    refine W.block ?_
                    refine W.iter hI207 (fun (s207 : Unit) e w => EnvHas e [(2, .slice ascript3 script3.length cscript3), (7, .pointer (some ⟨b0_168, 0, none⟩)), (9, .pointer none), (11, VN 0)] ∧ St B (w0.on [mapR kvI (D60.at L) [] mw0_2_169 x_131]) (⟨some b0_168, 0, 1, fun _ => .int .i64 x_129, true⟩ :: ⟨some b0_168, 1, 1, fun _ => .int .i64 x_130, true⟩ :: ⟨some b0_168, 2, 1, fun _ => .map (some mw0_2_169), true⟩ :: ⟨some b0_168, 3, 1, fun _ => VN x_132, true⟩ :: L) w) ⟨(EnvHas.cons rfl (EnvHas.cons rfl (EnvHas.cons rfl (EnvHas.cons rfl EnvHas.nil)))), h186⟩ ?_
                    rintro _ o207 hR hx207 ev208 wl208 ⟨he208, h208⟩
                    obtain ⟨ev208, rfl⟩ := he208.open
                    unfold lethelaw23_NetExact_l0 at hR
                    refine W.seq_k fun K209 hK209 => ?_
                    refine W.seq_k fun K212 hK212 => ?_
                    refine W.regionT [(0, true), (1, true), (2, true), (3, true), (4, true), (5, true), (6, true), (7, true)] (by kernel_rfl) ?_
                    refine Plan.move_int rfl rfl ?_
                    refine Plan.move_slice rfl rfl ?_
                    refine Plan.len FNetExact.isl83 rfl rfl ?_
                    by_cases hc213 : 0 < script3.length
                    ·
                      replace hR := ifT hR hc213
                      refine Plan.cmpV (a := (0 : Int)) (b := (((script3.length : Nat) : Int) : Int)) (p := 0 < script3.length) (v := true) rfl rfl rfl rfl icmp_ltN (decide_eq_true hc213) ?_
                      refine Plan.move_bool rfl rfl ?_
                      refine Plan.move_int rfl rfl ?_
                      refine Plan.cmpP (a := (0 : Int)) (b := (200 : Int)) (p := (0 : Nat) < 200) rfl rfl rfl rfl icmp_ltN ?_
                      refine Plan.pickTb rfl rfl rfl ?_
                      refine Plan.nil ?_
                      refine hK212 _ _ ?_; clear hK212
                      refine W.condT rfl ?_
                      refine W.skip ?_
                      refine hK209 _ _ ?_; clear hK209
                      refine W.seq_k fun K214 hK214 => ?_
                      refine W.block ?_
                      refine W.seq_k fun K215 hK215 => ?_
                      refine W.regionT [(0, true), (1, true), (2, true), (3, true), (4, true), (5, true), (6, false), (7, true)] (by kernel_rfl) ?_
                      refine Plan.move_ptr rfl rfl ?_
                      refine Plan.move_ptr rfl rfl ?_
                      refine Plan.move_slice rfl rfl ?_
                      refine Plan.move_int rfl rfl ?_
                      obtain ⟨hc216, hR⟩ := hR
                      refine Plan.idxLVS (D := (D89.at L)) (j := 0) h208 (hv185.app [_, _, _, _]) FNetExact.sl83 rfl rfl rfl hc216 ?_
                      refine Plan.loadLV (D := (D89.at L)) (X := script3) (j := 0) (sz := 5) h208 ((0 : Int), (0 : Int), (0 : Int), (0 : Int), ([] : List Byte)) (hv185.app [_, _, _, _]) rfl rfl hc216 rfl FNetExact.agg89 fun b217 r217 hs217 hr217 => ?_
                      obtain ⟨i217_4, hv217_4⟩ := hs217
                      exact hR.elim
                    ·
                      replace hR := ifF hR hc213
                      refine Plan.cmpV (a := (0 : Int)) (b := (((script3.length : Nat) : Int) : Int)) (p := 0 < script3.length) (v := false) rfl rfl rfl rfl icmp_ltN (decide_eq_false hc213) ?_
                      refine Plan.move_bool rfl rfl ?_
                      refine Plan.passed rfl ?_
                      refine Plan.passed rfl ?_
                      refine Plan.pickFb rfl rfl rfl ?_
                      refine Plan.nil ?_
                      refine hK212 _ _ ?_; clear hK212
                      refine W.condF rfl ?_
                      refine W.exit (thenR_exit (iterR_exit (blockR_here ?_)))
                      exact ⟨(hx207 _ hR).symm, (EnvHas.cons rfl (EnvHas.cons rfl EnvHas.nil)), h208⟩
                  ·
                    rintro ev218 wl218 ⟨hy218, he218, h218⟩
                    obtain ⟨ev218, rfl⟩ := he218.open
                    replace hR := hR0207  hy218
                    refine hK196 _ _ ?_; clear hK196
                    refine W.seq_k fun K219 hK219 => ?_
                    refine W.regionT [(0, true), (1, false), (2, true), (3, false), (4, false), (5, true), (6, true), (7, false), (8, true), (9, false), (10, true), (11, true), (12, true)] (by kernel_rfl) ?_
                    refine Plan.move_ptr rfl rfl ?_
                    obtain ⟨x_221, hr220, hR⟩ := hR
                    refine Plan.call (vs := [.pointer (some ⟨b0_168, 0, none⟩)]) rfl FNetExact.call32 rfl (net_Net_Flights_ok (w0 := w0) (LP := L) (by exact fun r hr => List.mem_append_right [] ((fun _ h => h) r hr)) hr220 (show St B (w0.on [mapR kvI (D60.at L) [] mw0_2_169 x_131]) _ _ from h218)) ?_
                    rintro _ w227 ⟨C227, ay0_222, py0_223, ny0_224, cy0_225, Fy0_226, rfl, h227, hf227_0⟩
                    replace h227 : St B (w0.on [mapR kvI (D60.at (C227 ++ L)) [] mw0_2_169 x_131]) _ _ := h227
                    replace h227 := St.pool (N := [_, _, _, _, _]) (R := []) h227
                    obtain ⟨L, hL228⟩ : ∃ X, X = C227 ++ L := ⟨_, rfl⟩
                    have h228 := St.re (N := [_, _, _, _, _]) hL228 h227
                    simp only [List.cons_append, List.nil_append] at h228
                    replace hFr : Fr2 _ _ L L := hFr.step hL228 hL228
                    have h230 := St.eqM (A' := L) h228 (i := 0) rfl hL228
                    simp only [List.set_cons_zero, List.set_cons_succ] at h230
                    obtain rfl := hf227_0.hl
                    have hd227_0 : LO (D60.at L) [] ay0_222 py0_223 (x_221).length cy0_225 Fy0_226 x_221 := LO.grow D60_lifts (fun r hr => (by rw [hL228]; exact hr)) hf227_0
                    refine ⟨_, rfl, .inl ⟨PIn.keep PIn.nil h230, ?_⟩⟩
                    refine Plan.move_ptr rfl rfl ?_
                    exact hR.elim
            ·
              refine Plan.call (vs := [VN 2, VN 3]) rfl FNetExact.call41 rfl (letheref23_New_ok (LP := L) (by exact fun r hr => List.mem_append_right [_, _, _, _] ((fun _ h => h) r hr)) hr176 h174) ?_
              rintro _ w237 ⟨C237, b0_231, aw0_2_232, pw0_2_233, nw0_2_234, cw0_2_235, Fw0_2_236, rfl, h237, hf237_0⟩
              try dsimp only at hf237_0
              obtain rfl := hf237_0.hl
              replace h237 := St.pool (N := [_, _, _, _, _]) (R := [_, _, _, _]) h237
              obtain ⟨L, hL238⟩ : ∃ X, X = C237 ++ L := ⟨_, rfl⟩
              have h238 := St.re (N := [_, _, _, _, _, _, _, _, _]) hL238 h237
              simp only [List.cons_append, List.nil_append] at h238
              replace hFr : Fr2 _ _ L L := hFr.step hL238 hL238
              obtain ⟨ix239, hv239⟩ : ∃ i, LV (D89.at L) L i ascript3 script3.length cscript3 script3 := ⟨_, by rw [hL238]; exact (LV.grow D89_lifts (fun r hr => List.mem_append_right _ hr) hv172).app _⟩
              have h240 := St.liftM (LP' := L) h238 (i := 0) rfl D60_lifts (fun r hr => by rw [hL238]; exact List.mem_append_right _ hr)
              simp only [List.set_cons_zero, List.set_cons_succ] at h240
              have ho241 : LO (D60.at L) [] aw0_2_232 pw0_2_233 ((x_180).length) cw0_2_235 Fw0_2_236 x_180 := LO.grow D60_lifts (fun r hr => (by rw [hL238]; exact hr)) hf237_0
              refine ⟨_, rfl, .inl ⟨PIn.keep PIn.nil h240, ?_⟩⟩
              refine Plan.move_tuple rfl rfl ?_
              refine Plan.extract_ptr rfl rfl rfl ?_
              refine Plan.extract_int rfl rfl rfl ?_
              refine Plan.assign_ptr rfl rfl ?_
              refine Plan.assign_int rfl rfl ?_
              refine Plan.nil ?_
              refine hK175 _ _ ?_; clear hK175
              refine W.seq_k fun K242 hK242 => ?_
              refine W.regionT [(0, true), (1, true), (2, true), (3, true), (4, true), (5, true), (6, true), (7, true), (8, true), (9, true)] (by kernel_rfl) ?_
              refine Plan.move_int rfl rfl ?_
              by_cases hc243 : x_133 ≠ 0
              ·
                replace hR := ifT hR hc243
                refine Plan.cmpV (a := (((x_133 : Nat) : Int) : Int)) (b := (0 : Int)) (p := x_133 ≠ 0) (v := true) rfl rfl rfl rfl icmp_neN (decide_eq_true hc243) ?_
                refine Plan.move_bool rfl rfl ?_
                refine Plan.passed rfl ?_
                refine Plan.passed rfl ?_
                refine Plan.pickTb rfl rfl rfl ?_
                refine Plan.move_bool rfl rfl ?_
                refine Plan.passed rfl ?_
                refine Plan.passed rfl ?_
                refine Plan.pickTb rfl rfl rfl ?_
                refine Plan.nil ?_
                refine hK242 _ _ ?_; clear hK242
                refine W.condT rfl ?_
                refine W.seq_k fun K244 hK244 => ?_
                refine W.regionT [(0, true)] (by kernel_rfl) ?_
                refine Plan.assign_bool rfl rfl ?_
                refine Plan.nil ?_
                refine hK244 _ _ ?_; clear hK244
                refine W.ret (thenR_ret (finR_ret ?_))
                have h245 := St.pickT (C := [_, _, _, _, _, _, _, _, _]) h240 [] (by decide)
                simp only [pick, List.filterMap_cons, List.filterMap_nil, List.getElem?_cons_zero, List.getElem?_cons_succ, List.cons_append, List.nil_append] at h245
                have h246 : St B w0 _ _ := St.mpick (N := [mapR kvI (D60.at L) [] mw0_2_169 x_131]) (N' := []) h245 [] (by decide) rfl
                subst r
                refine RetOk.mk (.tmp_bool rfl .nil) ?_
                obtain ⟨CF, hx1, hx2⟩ := hFr
                subst hx1
                have hdr := St.dropC (N := []) h246
                exact ⟨rfl, hdr⟩
              ·
                replace hR := ifF hR hc243
                refine Plan.cmpV (a := (((x_133 : Nat) : Int) : Int)) (b := (0 : Int)) (p := x_133 ≠ 0) (v := false) rfl rfl rfl rfl icmp_neN (decide_eq_false hc243) ?_
                refine Plan.move_bool rfl rfl ?_
                refine Plan.move_ptr rfl rfl ?_
                refine Plan.eqNil (b := false) FNetExact.ptr51 rfl rfl rfl rfl ?_
                refine Plan.pickFb rfl rfl rfl ?_
                refine Plan.move_bool rfl rfl ?_
                refine Plan.move_int rfl rfl ?_
                refine Plan.cmpP (a := (((x_182 : Nat) : Int) : Int)) (b := (0 : Int)) (p := x_182 ≠ 0) rfl rfl rfl rfl icmp_neN ?_
                refine Plan.pickFb rfl rfl rfl ?_
                refine Plan.nil ?_
                refine hK242 _ _ ?_; clear hK242
                by_cases hc247 : x_182 ≠ 0
                ·
                  replace hR := ifT hR hc247
                  refine W.condT (congrArg Value.bool (decide_eq_true hc247)) ?_
                  refine W.seq_k fun K248 hK248 => ?_
                  refine W.regionT [(0, true)] (by kernel_rfl) ?_
                  refine Plan.assign_bool rfl rfl ?_
                  refine Plan.nil ?_
                  refine hK248 _ _ ?_; clear hK248
                  refine W.ret (thenR_ret (finR_ret ?_))
                  have h249 := St.pickT (C := [_, _, _, _, _, _, _, _, _]) h240 [] (by decide)
                  simp only [pick, List.filterMap_cons, List.filterMap_nil, List.getElem?_cons_zero, List.getElem?_cons_succ, List.cons_append, List.nil_append] at h249
                  have h250 : St B w0 _ _ := St.mpick (N := [mapR kvI (D60.at L) [] mw0_2_169 x_131]) (N' := []) h249 [] (by decide) rfl
                  subst r
                  refine RetOk.mk (.tmp_bool rfl .nil) ?_
                  obtain ⟨CF, hx1, hx2⟩ := hFr
                  subst hx1
                  have hdr := St.dropC (N := []) h250
                  exact ⟨rfl, hdr⟩
                ·
                  replace hR := ifF hR hc247
                  refine W.condF (congrArg Value.bool (decide_eq_false hc247)) ?_
                  refine W.skip ?_
                  refine hK38 _ _ ?_; clear hK38
                  refine W.seq_k fun K251 hK251 => ?_
                  refine W.seq_k fun K252 hK252 => ?_
                  refine W.regionT [(0, true)] (by kernel_rfl) ?_
                  refine Plan.assign_int rfl rfl ?_
                  refine Plan.nil ?_
                  refine hK252 _ _ ?_; clear hK252
                  have hFj334 : Fr2 L L L L := Fr2.refl _ _
                  obtain ⟨x334, hI334, hR0334⟩ := hR
                  refine W.cutN (fun e w => ∃ y_mp330 : List (Int × (Int × Int × Int × (List Byte))), ∃ y_m331 : List (Int × Int × Int × (List Byte)), ∃ y_m332 : Int, ∃ y_m333 : Int, x334 = some (y_mp330, y_m331, y_m332, y_m333) ∧ ∃ CG LG : List Rg, LG = CG ++ L ∧ ∃ L : List Rg, L = LG ∧ ∃ n_m331 : Nat, ∃ am331 : Option Addr, ∃ pm331 : Option Nat, ∃ cm331 : Nat, ∃ Fm331 : Nat → Value, EnvHas e [(7, .pointer (some ⟨b0_168, 0, none⟩)), (9, .pointer (some ⟨b0_231, 0, none⟩))] ∧ St B (w0.on [mapR kvI (D60.at L) [] mw0_2_169 y_mp330]) (⟨pm331, 0, cm331 * 4, Fm331, true⟩ :: ⟨some b0_231, 0, 1, fun _ => .int .i64 x_178, true⟩ :: ⟨some b0_231, 1, 1, fun _ => .int .i64 x_179, true⟩ :: ⟨some b0_231, 2, 1, fun _ => .slice am331 n_m331 cm331, true⟩ :: ⟨some b0_231, 3, 1, fun _ => .int .i64 y_m332, true⟩ :: ⟨some b0_168, 0, 1, fun _ => .int .i64 x_129, true⟩ :: ⟨some b0_168, 1, 1, fun _ => .int .i64 x_130, true⟩ :: ⟨some b0_168, 2, 1, fun _ => .map (some mw0_2_169), true⟩ :: ⟨some b0_168, 3, 1, fun _ => .int .i64 y_m333, true⟩ :: L) w ∧ LO (D60.at L) [] am331 pm331 n_m331 cm331 Fm331 y_m331) ?_ ?_
                  ·
                    refine W.block ?_
                    have h335 := St.pickT (C := [_, _, _, _, _, _, _, _, _]) h240 [3, 0, 1, 2, 4, 5, 6, 7, 8] (by decide)
                    simp only [pick, List.filterMap_cons, List.filterMap_nil, List.getElem?_cons_zero, List.getElem?_cons_succ, List.cons_append, List.nil_append] at h335
                    refine W.iter hI334 (fun (s334 : ((List (Int × (Int × Int × Int × (List Byte)))) × Nat × (List (Int × Int × Int × (List Byte))) × Int × Int)) e w => ∃ CG LG : List Rg, LG = CG ++ L ∧ ∃ L : List Rg, L = LG ∧ ∃ n_m327 : Nat, ∃ am327 : Option Addr, ∃ pm327 : Option Nat, ∃ cm327 : Nat, ∃ Fm327 : Nat → Value, EnvHas e [(2, .slice ascript3 script3.length cscript3), (7, .pointer (some ⟨b0_168, 0, none⟩)), (9, .pointer (some ⟨b0_231, 0, none⟩)), (11, VN s334.2.1)] ∧ St B (w0.on [mapR kvI (D60.at L) [] mw0_2_169 s334.1]) (⟨pm327, 0, cm327 * 4, Fm327, true⟩ :: ⟨some b0_231, 0, 1, fun _ => .int .i64 x_178, true⟩ :: ⟨some b0_231, 1, 1, fun _ => .int .i64 x_179, true⟩ :: ⟨some b0_231, 2, 1, fun _ => .slice am327 n_m327 cm327, true⟩ :: ⟨some b0_231, 3, 1, fun _ => .int .i64 s334.2.2.2.1, true⟩ :: ⟨some b0_168, 0, 1, fun _ => .int .i64 x_129, true⟩ :: ⟨some b0_168, 1, 1, fun _ => .int .i64 x_130, true⟩ :: ⟨some b0_168, 2, 1, fun _ => .map (some mw0_2_169), true⟩ :: ⟨some b0_168, 3, 1, fun _ => .int .i64 s334.2.2.2.2, true⟩ :: L) w ∧ LO (D60.at L) [] am327 pm327 n_m327 cm327 Fm327 s334.2.2.1) ⟨[], L, rfl, L, rfl, x_180.length, aw0_2_232, pw0_2_233, cw0_2_235, Fw0_2_236, (EnvHas.cons rfl (EnvHas.cons rfl (EnvHas.cons rfl (EnvHas.cons rfl EnvHas.nil)))), h335, ho241⟩ ?_
                    rintro ⟨mp325, i_326, m327, m328, m329⟩ o334 hR hx334 ev336 wl336 ⟨CG336, LG336, hlg336, L, hLe336, n_m327, am327, pm327, cm327, Fm327, he336, h336, hm327⟩
                    try dsimp only at he336 h336 hm327
                    obtain rfl : List.length (α := (Int × Int × Int × (List Byte))) m327 = n_m327 := hm327.hl
                    obtain ⟨ev336, rfl⟩ := he336.open
                    unfold lethelaw23_NetExact_l1 at hR
                    have hL336 := hLe336.trans hlg336
                    replace hFr : Fr2 _ _ L L := hFr.step hL336 hL336
                    replace hFj334 : Fr2 _ _ L L := hFj334.step hL336 hL336
                    obtain ⟨ix338, hv338⟩ : ∃ i, LV (D89.at L) L i ascript3 script3.length cscript3 script3 := ⟨_, by rw [hL336]; exact (LV.grow D89_lifts (fun r hr => List.mem_append_right _ hr) hv239).app _⟩
                    refine W.seq_k fun K339 hK339 => ?_
                    refine W.seq_k fun K343 hK343 => ?_
                    refine W.regionT [(0, true), (1, true), (2, true), (3, true), (4, true), (5, true), (6, true), (7, true)] (by kernel_rfl) ?_
                    refine Plan.move_int rfl rfl ?_
                    refine Plan.move_slice rfl rfl ?_
                    refine Plan.len FNetExact.isl83 rfl rfl ?_
                    by_cases hc344 : i_326 < script3.length
                    ·
                      replace hR := ifT hR hc344
                      refine Plan.cmpV (a := (((i_326 : Nat) : Int) : Int)) (b := (((script3.length : Nat) : Int) : Int)) (p := i_326 < script3.length) (v := true) rfl rfl rfl rfl icmp_ltN (decide_eq_true hc344) ?_
                      refine Plan.move_bool rfl rfl ?_
                      refine Plan.move_int rfl rfl ?_
                      refine Plan.cmpP (a := (((i_326 : Nat) : Int) : Int)) (b := (200 : Int)) (p := i_326 < 200) rfl rfl rfl rfl icmp_ltN ?_
                      refine Plan.pickTb rfl rfl rfl ?_
                      refine Plan.nil ?_
                      refine hK343 _ _ ?_; clear hK343
                      by_cases hc345 : i_326 < 200
                      ·
                        replace hR := ifT hR hc345
                        refine W.condT (congrArg Value.bool (decide_eq_true hc345)) ?_
                        refine W.skip ?_
                        refine hK339 _ _ ?_; clear hK339
                        refine W.seq_k fun K346 hK346 => ?_
                        refine W.block ?_
                        refine W.seq_k fun K347 hK347 => ?_
                        refine W.regionT [(0, true), (1, true), (2, true), (3, true), (4, true), (5, true), (6, false), (7, true)] (by kernel_rfl) ?_
                        refine Plan.move_ptr rfl rfl ?_
                        refine Plan.move_ptr rfl rfl ?_
                        refine Plan.move_slice rfl rfl ?_
                        refine Plan.move_int rfl rfl ?_
                        obtain ⟨hc348, hR⟩ := hR
                        refine Plan.idxLVS (D := (D89.at L)) (j := i_326) h336 (hv338.app [_, _, _, _, _, _, _, _, _]) FNetExact.sl83 rfl rfl rfl hc348 ?_
                        refine Plan.loadLV (D := (D89.at L)) (X := script3) (j := i_326) (sz := 5) h336 ((0 : Int), (0 : Int), (0 : Int), (0 : Int), ([] : List Byte)) (hv338.app [_, _, _, _, _, _, _, _, _]) rfl rfl hc348 rfl FNetExact.agg89 fun b349 r349 hs349 hr349 => ?_
                        obtain ⟨i349_4, hv349_4⟩ := hs349
                        have h350 := St.pickT (C := [_, _, _, _, _, _, _, _, _]) h336 [5, 6, 7, 8, 1, 2, 3, 0, 4] (by decide)
                        simp only [pick, List.filterMap_cons, List.filterMap_nil, List.getElem?_cons_zero, List.getElem?_cons_succ, List.cons_append, List.nil_append] at h350
                        obtain ⟨x_352, x_353, x_354, x_355, x_356, hr351, hR⟩ := hR
                        refine Plan.call (vs := [.pointer (some ⟨b0_168, 0, none⟩), .pointer (some ⟨b0_231, 0, none⟩), AG [(1, fun _ => .int .i64 ((script3.getD i_326 ((0 : Int), (0 : Int), (0 : Int), (0 : Int), ([] : List Byte))).1)), (1, fun _ => .int .i64 ((script3.getD i_326 ((0 : Int), (0 : Int), (0 : Int), (0 : Int), ([] : List Byte))).2.1)), (1, fun _ => .int .i64 ((script3.getD i_326 ((0 : Int), (0 : Int), (0 : Int), (0 : Int), ([] : List Byte))).2.2.1)), (1, fun _ => .int .i64 ((script3.getD i_326 ((0 : Int), (0 : Int), (0 : Int), (0 : Int), ([] : List Byte))).2.2.2.1)), (1, fun _ => .slice ((b349).1) (((script3.getD i_326 ((0 : Int), (0 : Int), (0 : Int), (0 : Int), ([] : List Byte))).2.2.2.2).length) ((b349).2))]]) rfl FNetExact.call42 rfl (lethelaw23_step_ok (w0 := w0) (LP := L) (by exact fun r hr => List.mem_append_right [] ((fun _ h => h) r hr)) (by exact LO.grow D60_lifts (fun r hr => hr) hm327) (by exact ⟨_, hv349_4⟩) hr351 (show St B (w0.on [mapR kvI (D60.at L) [] mw0_2_169 mp325]) _ _ from h350)) ?_
                        rintro _ w362 ⟨C362, aqrRow9_357, pqrRow9_358, nqrRow9_359, cqrRow9_360, FqrRow9_361, rfl, h362, hf362_0⟩
                        replace h362 : St B (w0.on [mapR kvI (D60.at (C362 ++ L)) [] mw0_2_169 x_356]) _ _ := h362
                        try dsimp only at hf362_0
                        obtain rfl := hf362_0.hl
                        replace h362 := St.pool (N := [_, _, _, _, _, _, _, _, _]) (R := []) h362
                        obtain ⟨L, hL363⟩ : ∃ X, X = C362 ++ L := ⟨_, rfl⟩
                        have h363 := St.re (N := [_, _, _, _, _, _, _, _, _]) hL363 h362
                        simp only [List.cons_append, List.nil_append] at h363
                        replace hFr : Fr2 _ _ L L := hFr.step hL363 hL363
                        replace hFj334 : Fr2 _ _ L L := hFj334.step hL363 hL363
                        obtain ⟨ix364, hv364⟩ : ∃ i, LV (D89.at L) L i ascript3 script3.length cscript3 script3 := ⟨_, by rw [hL363]; exact (LV.grow D89_lifts (fun r hr => List.mem_append_right _ hr) hv338).app _⟩
                        obtain ⟨ix365, hv365⟩ : ∃ i, Bx L i ((b349).1) (((script3.getD i_326 ((0 : Int), (0 : Int), (0 : Int), (0 : Int), ([] : List Byte))).2.2.2.2).length) ((b349).2) ((script3.getD i_326 ((0 : Int), (0 : Int), (0 : Int), (0 : Int), ([] : List Byte))).2.2.2.2) := ⟨_, by rw [hL363]; exact hv349_4.app _⟩
                        obtain ⟨jx367, hj367⟩ : ∃ j : Nat, L[j]? = some r349 := ⟨_, by rw [hL363]; exact flget (i := ix338) hr349 _⟩
                        have h368 := St.eqM (A' := L) h363 (i := 0) rfl hL363
                        simp only [List.set_cons_zero, List.set_cons_succ] at h368
                        have ho369 : LO (D60.at L) [] aqrRow9_357 pqrRow9_358 ((x_354).length) cqrRow9_360 FqrRow9_361 x_354 := LO.grow D60_lifts (fun r hr => (by rw [hL363]; exact hr)) hf362_0
                        refine ⟨_, rfl, .inr ⟨rfl, ?_⟩⟩
                        refine Plan.not rfl rfl ?_
                        refine Plan.nil ?_
                        refine hK347 _ _ ?_; clear hK347
                        by_cases hc370 : x_352 = true
                        ·
                          replace hR := ifT hR hc370
                          refine W.condF (congrArg Value.bool (congrArg Bool.not hc370)) ?_
                          refine W.skip ?_
                          refine blockR_norm ?_
                          refine hK346 _ _ ?_; clear hK346
                          refine W.regionT [(0, true), (1, true), (2, true)] (by kernel_rfl) ?_
                          refine Plan.move_int rfl rfl ?_
                          refine Plan.addN (a := i_326) (b := 1) rfl rfl rfl (by omega) ?_
                          refine Plan.assign_int rfl rfl ?_
                          refine Plan.nil ?_
                          have h371 := St.pickT (C := [_, _, _, _, _, _, _, _, _]) h368 [7, 4, 5, 6, 8, 0, 1, 2, 3] (by decide)
                          simp only [pick, List.filterMap_cons, List.filterMap_nil, List.getElem?_cons_zero, List.getElem?_cons_succ, List.cons_append, List.nil_append] at h371
                          obtain ⟨CF372, hx372, hy372⟩ := hFj334
                          exact iterR_norm ⟨_, hR, CF372, L, hx372, L, rfl, x_354.length, aqrRow9_357, pqrRow9_358, cqrRow9_360, FqrRow9_361, (EnvHas.cons rfl (EnvHas.cons rfl (EnvHas.cons rfl (EnvHas.cons rfl EnvHas.nil)))), h371, ho369⟩
                        ·
                          replace hR := ifF hR hc370
                          refine W.condT (congrArg Value.bool (congrArg Bool.not (Bool.eq_false_iff.2 hc370))) ?_
                          refine W.seq_k fun K373 hK373 => ?_
                          refine W.regionT [(0, true)] (by kernel_rfl) ?_
                          refine Plan.assign_bool rfl rfl ?_
                          refine Plan.nil ?_
                          refine hK373 _ _ ?_; clear hK373
                          refine W.ret (blockR_ret (thenR_ret (iterR_ret (blockR_ret (thenR_ret (thenR_ret (finR_ret ?_)))))))
                          have h374 := St.pickT (C := [_, _, _, _, _, _, _, _, _]) h368 [] (by decide)
                          simp only [pick, List.filterMap_cons, List.filterMap_nil, List.getElem?_cons_zero, List.getElem?_cons_succ, List.cons_append, List.nil_append] at h374
                          have h375 : St B w0 _ _ := St.mpick (N := [mapR kvI (D60.at L) [] mw0_2_169 x_356]) (N' := []) h374 [] (by decide) rfl
                          replace hR := hR.2
                          subst r
                          refine RetOk.mk (.tmp_bool rfl .nil) ?_
                          obtain ⟨CF, hx1, hx2⟩ := hFr
                          subst hx1
                          have hdr := St.dropC (N := []) h375
                          exact ⟨rfl, hdr⟩
                      ·
                        replace hR := ifF hR hc345
                        refine W.condF (congrArg Value.bool (decide_eq_false hc345)) ?_
                        refine W.exit (thenR_exit (iterR_exit (blockR_here ?_)))
                        obtain ⟨CF376, hx376, hy376⟩ := hFj334
                        exact ⟨mp325, m327, m328, m329, (hx334 _ hR).symm, CF376, L, hx376, L, rfl, m327.length, am327, pm327, cm327, Fm327, (EnvHas.cons rfl (EnvHas.cons rfl EnvHas.nil)), h336, hm327⟩
                    ·
                      replace hR := ifF hR hc344
                      refine Plan.cmpV (a := (((i_326 : Nat) : Int) : Int)) (b := (((script3.length : Nat) : Int) : Int)) (p := i_326 < script3.length) (v := false) rfl rfl rfl rfl icmp_ltN (decide_eq_false hc344) ?_
                      refine Plan.move_bool rfl rfl ?_
                      refine Plan.passed rfl ?_
                      refine Plan.passed rfl ?_
                      refine Plan.pickFb rfl rfl rfl ?_
                      refine Plan.nil ?_
                      refine hK343 _ _ ?_; clear hK343
                      refine W.condF rfl ?_
                      refine W.exit (thenR_exit (iterR_exit (blockR_here ?_)))
                      obtain ⟨CF377, hx377, hy377⟩ := hFj334
                      exact ⟨mp325, m327, m328, m329, (hx334 _ hR).symm, CF377, L, hx377, L, rfl, m327.length, am327, pm327, cm327, Fm327, (EnvHas.cons rfl (EnvHas.cons rfl EnvHas.nil)), h336, hm327⟩
                  ·
                    rintro ev378 wl378 ⟨y_mp330, y_m331, y_m332, y_m333, hy378, CG378, LG378, hlg378, L, hLe378, n_m331, am331, pm331, cm331, Fm331, he378, h378, hm331⟩
                    obtain ⟨ev378, rfl⟩ := he378.open
                    replace hR := hR0334 y_mp330 y_m331 y_m332 y_m333 hy378
                    obtain ⟨mp330, e_mp330⟩ : ∃ z, z = y_mp330 := ⟨_, rfl⟩; subst e_mp330
                    obtain ⟨m331, e_m331⟩ : ∃ z, z = y_m331 := ⟨_, rfl⟩; subst e_m331
                    obtain ⟨m332, e_m332⟩ : ∃ z, z = y_m332 := ⟨_, rfl⟩; subst e_m332
                    obtain ⟨m333, e_m333⟩ : ∃ z, z = y_m333 := ⟨_, rfl⟩; subst e_m333
                    obtain rfl : List.length (α := (Int × Int × Int × (List Byte))) m331 = n_m331 := hm331.hl
                    have hL378 := hLe378.trans hlg378
                    replace hFr : Fr2 _ _ L L := hFr.step hL378 hL378
                    replace hFj334 : Fr2 _ _ L L := hFj334.step hL378 hL378
                    refine hK251 _ _ ?_; clear hK251
                    refine W.seq_k fun K380 hK380 => ?_
                    refine W.regionT [(0, true), (1, false), (2, true), (3, false), (4, false), (5, true), (6, true), (7, false), (8, true), (9, false), (10, true), (11, true), (12, true)] (by kernel_rfl) ?_
                    refine Plan.move_ptr rfl rfl ?_
                    have h381 := St.pickT (C := [_, _, _, _, _, _, _, _, _]) h378 [5, 6, 7, 8, 0, 1, 2, 3, 4] (by decide)
                    simp only [pick, List.filterMap_cons, List.filterMap_nil, List.getElem?_cons_zero, List.getElem?_cons_succ, List.cons_append, List.nil_append] at h381
                    obtain ⟨x_383, hr382, hR⟩ := hR
                    refine Plan.call (vs := [.pointer (some ⟨b0_168, 0, none⟩)]) rfl FNetExact.call32 rfl (net_Net_Flights_ok (w0 := w0) (LP := L) (by exact fun r hr => List.mem_append_right [_, _, _, _, _] ((fun _ h => h) r hr)) hr382 (show St B (w0.on [mapR kvI (D60.at L) [] mw0_2_169 mp330]) _ _ from h381)) ?_
                    rintro _ w389 ⟨C389, ay0_384, py0_385, ny0_386, cy0_387, Fy0_388, rfl, h389, hf389_0⟩
                    replace h389 : St B (w0.on [mapR kvI (D60.at (C389 ++ L)) [] mw0_2_169 mp330]) _ _ := h389
                    replace h389 := St.pool (N := [_, _, _, _, _]) (R := [_, _, _, _, _]) h389
                    obtain ⟨L, hL390⟩ : ∃ X, X = C389 ++ L := ⟨_, rfl⟩
                    have h390 := St.re (N := [_, _, _, _, _, _, _, _, _, _]) hL390 h389
                    simp only [List.cons_append, List.nil_append] at h390
                    replace hFr : Fr2 _ _ L L := hFr.step hL390 hL390
                    replace hFj334 : Fr2 _ _ L L := hFj334.step hL390 hL390
                    have ho391 : LO (D60.at L) [] am331 pm331 ((m331).length) cm331 Fm331 m331 := by rw [hL390]; exact LO.grow D60_lifts (fun r hr => List.mem_append_right _ hr) hm331
                    have h393 := St.eqM (A' := L) h390 (i := 0) rfl hL390
                    simp only [List.set_cons_zero, List.set_cons_succ] at h393
                    obtain rfl := hf389_0.hl
                    have hd389_0 : LO (D60.at L) [] ay0_384 py0_385 (x_383).length cy0_387 Fy0_388 x_383 := LO.grow D60_lifts (fun r hr => (by rw [hL390]; exact hr)) hf389_0
                    refine ⟨_, rfl, .inl ⟨PIn.keep PIn.nil h393, ?_⟩⟩
                    refine Plan.move_ptr rfl rfl ?_
                    have h394 := St.pickT (C := [_, _, _, _, _, _, _, _, _, _]) h393 [6, 7, 8, 5, 9, 0, 1, 2, 3, 4] (by decide)
                    simp only [pick, List.filterMap_cons, List.filterMap_nil, List.getElem?_cons_zero, List.getElem?_cons_succ, List.cons_append, List.nil_append] at h394
                    obtain ⟨x_396, x_397, hr395, hR⟩ := hR
                    refine Plan.call (vs := [.pointer (some ⟨b0_231, 0, none⟩)]) rfl FNetExact.call44 rfl (letheref23_Net_Flights_ok (LP := L) (by exact fun r hr => List.mem_append_right [_, _, _, _, _] ((fun _ h => h) r hr)) (by exact LO.grow D60_lifts (fun r hr => hr) ho391) hr395 h394) ?_
                    rintro _ w408 ⟨C408, ay0_398, py0_399, ny0_400, cy0_401, Fy0_402, aqnRow4_403, pqnRow4_404, nqnRow4_405, cqnRow4_406, FqnRow4_407, rfl, h408, hf408_0, hf408_1⟩
                    try dsimp only at hf408_0 hf408_1
                    obtain rfl := hf408_1.hl
                    replace h408 := St.pool (N := [_, _, _, _, _, _]) (R := [_, _, _, _, _]) h408
                    obtain ⟨L, hL409⟩ : ∃ X, X = C408 ++ L := ⟨_, rfl⟩
                    have h409 := St.re (N := [_, _, _, _, _, _, _, _, _, _, _]) hL409 h408
                    simp only [List.cons_append, List.nil_append] at h409
                    replace hFr : Fr2 _ _ L L := hFr.step hL409 hL409
                    replace hFj334 : Fr2 _ _ L L := hFj334.step hL409 hL409
                    have ho410 : LO (D60.at L) [] ay0_384 py0_385 ((x_383).length) cy0_387 Fy0_388 x_383 := by rw [hL409]; exact LO.grow D60_lifts (fun r hr => List.mem_append_right _ hr) hd389_0
                    have h411 := St.liftM (LP' := L) h409 (i := 0) rfl D60_lifts (fun r hr => by rw [hL409]; exact List.mem_append_right _ hr)
                    simp only [List.set_cons_zero, List.set_cons_succ] at h411
                    have ho412 : LO (D60.at L) [] aqnRow4_403 pqnRow4_404 ((x_397).length) cqnRow4_406 FqnRow4_407 x_397 := LO.grow D60_lifts (fun r hr => (by rw [hL409]; exact hr)) hf408_1
                    obtain rfl := hf408_0.hl
                    have hd408_0 : LO (D60.at L) [] ay0_398 py0_399 (x_396).length cy0_401 Fy0_402 x_396 := LO.grow D60_lifts (fun r hr => (by rw [hL409]; exact hr)) hf408_0
                    refine ⟨_, rfl, .inl ⟨PIn.keep PIn.nil h411, ?_⟩⟩
                    obtain ⟨x_414, hr413, hR⟩ := hR
                    refine Plan.call (vs := [.slice ay0_384 x_383.length cy0_387, .slice ay0_398 x_396.length cy0_401]) rfl FNetExact.call43 rfl (lethelaw23_sameAll_ok (by exact (LV.grow D60_lifts (fun r hr => List.mem_append_right [_, _, _, _, _, _, _, _, _, _, _] ((fun _ h => h) r hr)) (LO.lvf EL.at_flat ho410 6 rfl))) (by exact (LV.grow D60_lifts (fun r hr => List.mem_append_right [_, _, _, _, _, _, _, _, _, _, _] ((fun _ h => h) r hr)) (LO.lvf EL.at_flat hd408_0 0 rfl))) hr413 h411) ?_
                    rintro _ w415 ⟨rfl, h415⟩
                    refine ⟨_, rfl, .inl ⟨PIn.keep PIn.nil h415, ?_⟩⟩
                    by_cases hc416 : x_414 = true
                    ·
                      replace hR := ifT hR hc416
                      obtain rfl : x_414 = true := hc416
                      refine Plan.move_bool rfl rfl ?_
                      refine Plan.move_ptr rfl rfl ?_
                      have h417 := St.pickT (C := [_, _, _, _, _, _, _, _, _, _, _]) h415 [7, 8, 9, 10, 0, 1, 2, 3, 4, 5, 6] (by decide)
                      simp only [pick, List.filterMap_cons, List.filterMap_nil, List.getElem?_cons_zero, List.getElem?_cons_succ, List.cons_append, List.nil_append] at h417
                      obtain ⟨x_419, hr418, hR⟩ := hR
                      refine Plan.call (vs := [.pointer (some ⟨b0_168, 0, none⟩)]) rfl FNetExact.call45 rfl (net_Net_Next_ok (w0 := w0) (LP := L) (by exact fun r hr => List.mem_append_right [_, _, _, _, _, _, _] ((fun _ h => h) r hr)) hr418 (show St B (w0.on [mapR kvI (D60.at L) [] mw0_2_169 mp330]) _ _ from h417)) ?_
                      rintro _ w420 ⟨C420, rfl, h420⟩
                      replace h420 : St B (w0.on [mapR kvI (D60.at (C420 ++ L)) [] mw0_2_169 mp330]) _ _ := h420
                      replace h420 := St.pool (N := [_, _, _, _]) (R := [_, _, _, _, _, _, _]) h420
                      obtain ⟨L, hL421⟩ : ∃ X, X = C420 ++ L := ⟨_, rfl⟩
                      have h421 := St.re (N := [_, _, _, _, _, _, _, _, _, _, _]) hL421 h420
                      simp only [List.cons_append, List.nil_append] at h421
                      replace hFr : Fr2 _ _ L L := hFr.step hL421 hL421
                      replace hFj334 : Fr2 _ _ L L := hFj334.step hL421 hL421
                      have ho422 : LO (D60.at L) [] ay0_398 py0_399 ((x_396).length) cy0_401 Fy0_402 x_396 := by rw [hL421]; exact LO.grow D60_lifts (fun r hr => List.mem_append_right _ hr) hd408_0
                      have ho423 : LO (D60.at L) [] aqnRow4_403 pqnRow4_404 ((x_397).length) cqnRow4_406 FqnRow4_407 x_397 := by rw [hL421]; exact LO.grow D60_lifts (fun r hr => List.mem_append_right _ hr) ho412
                      have ho424 : LO (D60.at L) [] ay0_384 py0_385 ((x_383).length) cy0_387 Fy0_388 x_383 := by rw [hL421]; exact LO.grow D60_lifts (fun r hr => List.mem_append_right _ hr) ho410
                      have h426 := St.eqM (A' := L) h421 (i := 0) rfl hL421
                      simp only [List.set_cons_zero, List.set_cons_succ] at h426
                      refine ⟨_, rfl, .inl ⟨PIn.keep PIn.nil h426, ?_⟩⟩
                      refine Plan.move_ptr rfl rfl ?_
                      have h427 := St.pickT (C := [_, _, _, _, _, _, _, _, _, _, _]) h426 [5, 6, 7, 9, 0, 1, 2, 3, 4, 8, 10] (by decide)
                      simp only [pick, List.filterMap_cons, List.filterMap_nil, List.getElem?_cons_zero, List.getElem?_cons_succ, List.cons_append, List.nil_append] at h427
                      obtain ⟨x_429, hr428, hR⟩ := hR
                      refine Plan.call (vs := [.pointer (some ⟨b0_231, 0, none⟩)]) rfl FNetExact.call46 rfl (letheref23_Net_Next_ok (by exact (LV.grow D60_lifts (fun r hr => List.mem_append_right [_, _, _, _, _, _, _] ((fun _ h => h) r hr)) (LO.lvf EL.at_flat ho423 5 rfl))) hr428 h427) ?_
                      rintro _ w430 ⟨rfl, h430⟩
                      refine ⟨_, rfl, .inl ⟨PIn.keep PIn.nil h430, ?_⟩⟩
                      refine Plan.cmpP (a := (x_419 : Int)) (b := (x_429 : Int)) (p := x_419 = x_429) rfl rfl rfl rfl icmp_eq ?_
                      refine Plan.pickTb rfl rfl rfl ?_
                      refine Plan.assign_bool rfl rfl ?_
                      refine Plan.nil ?_
                      refine hK380 _ _ ?_; clear hK380
                      refine W.ret (finR_ret ?_)
                      have h431 := St.pickT (C := [_, _, _, _, _, _, _, _, _, _, _]) h430 [] (by decide)
                      simp only [pick, List.filterMap_cons, List.filterMap_nil, List.getElem?_cons_zero, List.getElem?_cons_succ, List.cons_append, List.nil_append] at h431
                      have h432 : St B w0 _ _ := St.mpick (N := [mapR kvI (D60.at L) [] mw0_2_169 mp330]) (N' := []) h431 [] (by decide) rfl
                      subst r
                      refine RetOk.mk (.tmp_bool rfl .nil) ?_
                      obtain ⟨CF, hx1, hx2⟩ := hFr
                      subst hx1
                      have hdr := St.dropC (N := []) h432
                      exact ⟨rfl, hdr⟩
                    ·
                      replace hR := ifF hR hc416
                      obtain rfl : x_414 = false := Bool.eq_false_iff.2 hc416
                      refine Plan.move_bool rfl rfl ?_
                      refine Plan.passed rfl ?_
                      refine Plan.passed rfl ?_
                      refine Plan.passed rfl ?_
                      refine Plan.passed rfl ?_
                      refine Plan.passed rfl ?_
                      refine Plan.pickFb rfl rfl rfl ?_
                      refine Plan.assign_bool rfl rfl ?_
                      refine Plan.nil ?_
                      refine hK380 _ _ ?_; clear hK380
                      refine W.ret (finR_ret ?_)
                      have h433 := St.pickT (C := [_, _, _, _, _, _, _, _, _, _, _]) h415 [] (by decide)
                      simp only [pick, List.filterMap_cons, List.filterMap_nil, List.getElem?_cons_zero, List.getElem?_cons_succ, List.cons_append, List.nil_append] at h433
                      have h434 : St B w0 _ _ := St.mpick (N := [mapR kvI (D60.at L) [] mw0_2_169 mp330]) (N' := []) h433 [] (by decide) rfl
                      subst r
                      refine RetOk.mk (.tmp_bool rfl .nil) ?_
                      obtain ⟨CF, hx1, hx2⟩ := hFr
                      subst hx1
                      have hdr := St.dropC (N := []) h434
                      exact ⟨rfl, hdr⟩
    ·
      refine Plan.call (vs := [.int .i64 nodes1, .int .i64 most2]) rfl FNetExact.call41 rfl (letheref23_New_ok (LP := L) (by exact fun r hr => List.mem_append_right [] ((fun _ h => h) r hr)) hr17 h14) ?_
      rintro _ w441 ⟨C441, b0_435, aw0_2_436, pw0_2_437, nw0_2_438, cw0_2_439, Fw0_2_440, rfl, h441, hf441_0⟩
      try dsimp only at hf441_0
      obtain rfl := hf441_0.hl
      replace h441 := St.pool (N := [_, _, _, _, _]) (R := []) h441
      obtain ⟨L, hL442⟩ : ∃ X, X = C441 ++ L := ⟨_, rfl⟩
      have h442 := St.re (N := [_, _, _, _, _]) hL442 h441
      simp only [List.cons_append, List.nil_append] at h442
      replace hFr : Fr2 _ _ L L := hFr.step hL442 hL442
      obtain ⟨ix443, hv443⟩ : ∃ i, LV (D89.at L) L i ascript3 script3.length cscript3 script3 := ⟨_, by rw [hL442]; exact (LV.grow D89_lifts (fun r hr => List.mem_append_right _ hr) hv15).app _⟩
      have ho444 : LO (D60.at L) [] aw0_2_436 pw0_2_437 ((x_21).length) cw0_2_439 Fw0_2_440 x_21 := LO.grow D60_lifts (fun r hr => (by rw [hL442]; exact hr)) hf441_0
      refine ⟨_, rfl, .inl ⟨PIn.keep PIn.nil h442, ?_⟩⟩
      refine Plan.move_tuple rfl rfl ?_
      refine Plan.extract_ptr rfl rfl rfl ?_
      refine Plan.extract_int rfl rfl rfl ?_
      refine Plan.assign_ptr rfl rfl ?_
      refine Plan.assign_int rfl rfl ?_
      refine Plan.nil ?_
      refine hK16 _ _ ?_; clear hK16
      refine W.seq_k fun K445 hK445 => ?_
      refine W.seq_k fun K451 hK451 => ?_
      refine W.regionT [(0, true), (1, true), (2, true), (3, true), (4, true), (5, true), (6, true), (7, true), (8, true), (9, true)] (by kernel_rfl) ?_
      refine Plan.move_int rfl rfl ?_
      refine Plan.move_int rfl rfl ?_
      by_cases hc452 : x_7 ≠ x_23
      ·
        replace hR := ifT hR hc452
        refine Plan.cmpV (a := (((x_7 : Nat) : Int) : Int)) (b := (((x_23 : Nat) : Int) : Int)) (p := x_7 ≠ x_23) (v := true) rfl rfl rfl rfl icmp_neN (decide_eq_true hc452) ?_
        refine Plan.move_bool rfl rfl ?_
        refine Plan.passed rfl ?_
        refine Plan.passed rfl ?_
        refine Plan.passed rfl ?_
        refine Plan.passed rfl ?_
        refine Plan.passed rfl ?_
        refine Plan.pickTb rfl rfl rfl ?_
        refine Plan.nil ?_
        refine hK451 _ _ ?_; clear hK451
        refine W.condT rfl ?_
        refine W.seq_k fun K453 hK453 => ?_
        refine W.regionT [(0, true)] (by kernel_rfl) ?_
        refine Plan.assign_bool rfl rfl ?_
        refine Plan.nil ?_
        refine hK453 _ _ ?_; clear hK453
        refine W.ret (thenR_ret (finR_ret ?_))
        have h454 := St.pickT (C := [_, _, _, _, _]) h442 [] (by decide)
        simp only [pick, List.filterMap_cons, List.filterMap_nil, List.getElem?_cons_zero, List.getElem?_cons_succ, List.cons_append, List.nil_append] at h454
        subst r
        refine RetOk.mk (.tmp_bool rfl .nil) ?_
        obtain ⟨CF, hx1, hx2⟩ := hFr
        subst hx1
        have hdr := St.dropC (N := []) h454
        exact ⟨rfl, hdr⟩
      ·
        replace hR := ifF hR hc452
        refine Plan.cmpV (a := (((x_7 : Nat) : Int) : Int)) (b := (((x_23 : Nat) : Int) : Int)) (p := x_7 ≠ x_23) (v := false) rfl rfl rfl rfl icmp_neN (decide_eq_false hc452) ?_
        refine Plan.move_bool rfl rfl ?_
        refine Plan.move_ptr rfl rfl ?_
        refine Plan.eqNil (b := true) FNetExact.ptr51 rfl rfl rfl rfl ?_
        refine Plan.move_ptr rfl rfl ?_
        refine Plan.eqNil (b := false) FNetExact.ptr84 rfl rfl rfl rfl ?_
        refine Plan.neBoolV (v := (true != false)) FNetExact.bool4 rfl rfl rfl rfl ?_
        refine Plan.pickFb rfl rfl rfl ?_
        refine Plan.nil ?_
        refine hK451 _ _ ?_; clear hK451
        by_cases hc455 : (true != false) = true
        ·
          replace hR := ifT hR hc455
          refine W.condT (congrArg Value.bool hc455) ?_
          refine W.seq_k fun K456 hK456 => ?_
          refine W.regionT [(0, true)] (by kernel_rfl) ?_
          refine Plan.assign_bool rfl rfl ?_
          refine Plan.nil ?_
          refine hK456 _ _ ?_; clear hK456
          refine W.ret (thenR_ret (finR_ret ?_))
          have h457 := St.pickT (C := [_, _, _, _, _]) h442 [] (by decide)
          simp only [pick, List.filterMap_cons, List.filterMap_nil, List.getElem?_cons_zero, List.getElem?_cons_succ, List.cons_append, List.nil_append] at h457
          subst r
          refine RetOk.mk (.tmp_bool rfl .nil) ?_
          obtain ⟨CF, hx1, hx2⟩ := hFr
          subst hx1
          have hdr := St.dropC (N := []) h457
          exact ⟨rfl, hdr⟩
        ·
          replace hR := ifF hR hc455
          refine W.condF (congrArg Value.bool (Bool.eq_false_iff.2 hc455)) ?_
          refine W.skip ?_
          refine hK445 _ _ ?_; clear hK445
          refine W.seq_k fun K458 hK458 => ?_
          refine W.seq_k fun K551 hK551 => ?_
          refine W.regionT [(0, true), (1, true)] (by kernel_rfl) ?_
          refine Plan.move_ptr rfl rfl ?_
          refine Plan.eqNil (b := true) FNetExact.ptr51 rfl rfl rfl rfl ?_
          refine Plan.nil ?_
          refine hK551 _ _ ?_; clear hK551
          refine W.condT rfl ?_
          refine W.seq_k fun K552 hK552 => ?_
          refine W.regionT [(0, false), (1, true), (2, true), (3, true), (4, true), (5, true)] (by kernel_rfl) ?_
          rcases hR with ⟨x_554, hr553, hR⟩ | ⟨x_555, x_556, x_557, x_558, x_559, hr553, hR⟩
          ·
            refine Plan.call (vs := [VN 2, VN 3]) rfl FNetExact.call29 rfl (net_New_ok (LP := L) (by exact fun r hr => List.mem_append_right [_, _, _, _, _] ((fun _ h => h) r hr)) hr553 h442) ?_
            rintro _ w560 ⟨C560, rfl, h560⟩
            replace h560 := St.pool (N := []) (R := [_, _, _, _, _]) h560
            obtain ⟨L, hL561⟩ : ∃ X, X = C560 ++ L := ⟨_, rfl⟩
            have h561 := St.re (N := [_, _, _, _, _]) hL561 h560
            simp only [List.cons_append, List.nil_append] at h561
            replace hFr : Fr2 _ _ L L := hFr.step hL561 hL561
            obtain ⟨ix562, hv562⟩ : ∃ i, LV (D89.at L) L i ascript3 script3.length cscript3 script3 := ⟨_, by rw [hL561]; exact (LV.grow D89_lifts (fun r hr => List.mem_append_right _ hr) hv443).app _⟩
            have ho563 : LO (D60.at L) [] aw0_2_436 pw0_2_437 ((x_21).length) cw0_2_439 Fw0_2_440 x_21 := by rw [hL561]; exact LO.grow D60_lifts (fun r hr => List.mem_append_right _ hr) ho444
            refine ⟨_, rfl, .inl ⟨PIn.keep PIn.nil h561, ?_⟩⟩
            refine Plan.move_tuple rfl rfl ?_
            refine Plan.extract_ptr rfl rfl rfl ?_
            refine Plan.extract_int rfl rfl rfl ?_
            refine Plan.assign_ptr rfl rfl ?_
            refine Plan.assign_int rfl rfl ?_
            refine Plan.nil ?_
            refine hK552 _ _ ?_; clear hK552
            refine W.seq_k fun K564 hK564 => ?_
            refine W.regionT [(0, false), (1, true), (2, true), (3, true), (4, true), (5, true)] (by kernel_rfl) ?_
            rcases hR with ⟨x_566, hr565, hR⟩ | ⟨x_567, x_568, x_569, x_570, x_571, hr565, hR⟩
            ·
              refine Plan.call (vs := [VN 2, VN 3]) rfl FNetExact.call41 rfl (letheref23_New_ok (LP := L) (by exact fun r hr => List.mem_append_right [_, _, _, _, _] ((fun _ h => h) r hr)) hr565 h561) ?_
              rintro _ w572 ⟨C572, rfl, h572⟩
              replace h572 := St.pool (N := []) (R := [_, _, _, _, _]) h572
              obtain ⟨L, hL573⟩ : ∃ X, X = C572 ++ L := ⟨_, rfl⟩
              have h573 := St.re (N := [_, _, _, _, _]) hL573 h572
              simp only [List.cons_append, List.nil_append] at h573
              replace hFr : Fr2 _ _ L L := hFr.step hL573 hL573
              obtain ⟨ix574, hv574⟩ : ∃ i, LV (D89.at L) L i ascript3 script3.length cscript3 script3 := ⟨_, by rw [hL573]; exact (LV.grow D89_lifts (fun r hr => List.mem_append_right _ hr) hv562).app _⟩
              have ho575 : LO (D60.at L) [] aw0_2_436 pw0_2_437 ((x_21).length) cw0_2_439 Fw0_2_440 x_21 := by rw [hL573]; exact LO.grow D60_lifts (fun r hr => List.mem_append_right _ hr) ho563
              refine ⟨_, rfl, .inl ⟨PIn.keep PIn.nil h573, ?_⟩⟩
              refine Plan.move_tuple rfl rfl ?_
              refine Plan.extract_ptr rfl rfl rfl ?_
              refine Plan.extract_int rfl rfl rfl ?_
              refine Plan.assign_ptr rfl rfl ?_
              refine Plan.assign_int rfl rfl ?_
              refine Plan.nil ?_
              refine hK564 _ _ ?_; clear hK564
              refine W.seq_k fun K576 hK576 => ?_
              refine W.regionT [(0, true), (1, true), (2, true), (3, true), (4, true), (5, true), (6, true), (7, true), (8, true), (9, true)] (by kernel_rfl) ?_
              refine Plan.move_int rfl rfl ?_
              by_cases hc577 : x_554 ≠ 0
              ·
                replace hR := ifT hR hc577
                refine Plan.cmpV (a := (((x_554 : Nat) : Int) : Int)) (b := (0 : Int)) (p := x_554 ≠ 0) (v := true) rfl rfl rfl rfl icmp_neN (decide_eq_true hc577) ?_
                refine Plan.move_bool rfl rfl ?_
                refine Plan.passed rfl ?_
                refine Plan.passed rfl ?_
                refine Plan.pickTb rfl rfl rfl ?_
                refine Plan.move_bool rfl rfl ?_
                refine Plan.passed rfl ?_
                refine Plan.passed rfl ?_
                refine Plan.pickTb rfl rfl rfl ?_
                refine Plan.nil ?_
                refine hK576 _ _ ?_; clear hK576
                refine W.condT rfl ?_
                refine W.seq_k fun K578 hK578 => ?_
                refine W.regionT [(0, true)] (by kernel_rfl) ?_
                refine Plan.assign_bool rfl rfl ?_
                refine Plan.nil ?_
                refine hK578 _ _ ?_; clear hK578
                refine W.ret (thenR_ret (finR_ret ?_))
                have h579 := St.pickT (C := [_, _, _, _, _]) h573 [] (by decide)
                simp only [pick, List.filterMap_cons, List.filterMap_nil, List.getElem?_cons_zero, List.getElem?_cons_succ, List.cons_append, List.nil_append] at h579
                subst r
                refine RetOk.mk (.tmp_bool rfl .nil) ?_
                obtain ⟨CF, hx1, hx2⟩ := hFr
                subst hx1
                have hdr := St.dropC (N := []) h579
                exact ⟨rfl, hdr⟩
              ·
                replace hR := ifF hR hc577
                refine Plan.cmpV (a := (((x_554 : Nat) : Int) : Int)) (b := (0 : Int)) (p := x_554 ≠ 0) (v := false) rfl rfl rfl rfl icmp_neN (decide_eq_false hc577) ?_
                refine Plan.move_bool rfl rfl ?_
                refine Plan.move_ptr rfl rfl ?_
                refine Plan.eqNil (b := true) FNetExact.ptr51 rfl rfl rfl rfl ?_
                refine Plan.pickFb rfl rfl rfl ?_
                refine Plan.move_bool rfl rfl ?_
                refine Plan.passed rfl ?_
                refine Plan.passed rfl ?_
                refine Plan.pickTb rfl rfl rfl ?_
                refine Plan.nil ?_
                refine hK576 _ _ ?_; clear hK576
                refine W.condT rfl ?_
                refine W.seq_k fun K580 hK580 => ?_
                refine W.regionT [(0, true)] (by kernel_rfl) ?_
                refine Plan.assign_bool rfl rfl ?_
                refine Plan.nil ?_
                refine hK580 _ _ ?_; clear hK580
                refine W.ret (thenR_ret (finR_ret ?_))
                have h581 := St.pickT (C := [_, _, _, _, _]) h573 [] (by decide)
                simp only [pick, List.filterMap_cons, List.filterMap_nil, List.getElem?_cons_zero, List.getElem?_cons_succ, List.cons_append, List.nil_append] at h581
                subst r
                refine RetOk.mk (.tmp_bool rfl .nil) ?_
                obtain ⟨CF, hx1, hx2⟩ := hFr
                subst hx1
                have hdr := St.dropC (N := []) h581
                exact ⟨rfl, hdr⟩
            ·
              refine Plan.call (vs := [VN 2, VN 3]) rfl FNetExact.call41 rfl (letheref23_New_ok (LP := L) (by exact fun r hr => List.mem_append_right [_, _, _, _, _] ((fun _ h => h) r hr)) hr565 h561) ?_
              rintro _ w588 ⟨C588, b0_582, aw0_2_583, pw0_2_584, nw0_2_585, cw0_2_586, Fw0_2_587, rfl, h588, hf588_0⟩
              try dsimp only at hf588_0
              obtain rfl := hf588_0.hl
              replace h588 := St.pool (N := [_, _, _, _, _]) (R := [_, _, _, _, _]) h588
              obtain ⟨L, hL589⟩ : ∃ X, X = C588 ++ L := ⟨_, rfl⟩
              have h589 := St.re (N := [_, _, _, _, _, _, _, _, _, _]) hL589 h588
              simp only [List.cons_append, List.nil_append] at h589
              replace hFr : Fr2 _ _ L L := hFr.step hL589 hL589
              obtain ⟨ix590, hv590⟩ : ∃ i, LV (D89.at L) L i ascript3 script3.length cscript3 script3 := ⟨_, by rw [hL589]; exact (LV.grow D89_lifts (fun r hr => List.mem_append_right _ hr) hv562).app _⟩
              have ho591 : LO (D60.at L) [] aw0_2_436 pw0_2_437 ((x_21).length) cw0_2_439 Fw0_2_440 x_21 := by rw [hL589]; exact LO.grow D60_lifts (fun r hr => List.mem_append_right _ hr) ho563
              have ho592 : LO (D60.at L) [] aw0_2_583 pw0_2_584 ((x_569).length) cw0_2_586 Fw0_2_587 x_569 := LO.grow D60_lifts (fun r hr => (by rw [hL589]; exact hr)) hf588_0
              refine ⟨_, rfl, .inl ⟨PIn.keep PIn.nil h589, ?_⟩⟩
              refine Plan.move_tuple rfl rfl ?_
              refine Plan.extract_ptr rfl rfl rfl ?_
              refine Plan.extract_int rfl rfl rfl ?_
              refine Plan.assign_ptr rfl rfl ?_
              refine Plan.assign_int rfl rfl ?_
              refine Plan.nil ?_
              refine hK564 _ _ ?_; clear hK564
              refine W.seq_k fun K593 hK593 => ?_
              refine W.regionT [(0, true), (1, true), (2, true), (3, true), (4, true), (5, true), (6, true), (7, true), (8, true), (9, true)] (by kernel_rfl) ?_
              refine Plan.move_int rfl rfl ?_
              by_cases hc594 : x_554 ≠ 0
              ·
                replace hR := ifT hR hc594
                refine Plan.cmpV (a := (((x_554 : Nat) : Int) : Int)) (b := (0 : Int)) (p := x_554 ≠ 0) (v := true) rfl rfl rfl rfl icmp_neN (decide_eq_true hc594) ?_
                refine Plan.move_bool rfl rfl ?_
                refine Plan.passed rfl ?_
                refine Plan.passed rfl ?_
                refine Plan.pickTb rfl rfl rfl ?_
                refine Plan.move_bool rfl rfl ?_
                refine Plan.passed rfl ?_
                refine Plan.passed rfl ?_
                refine Plan.pickTb rfl rfl rfl ?_
                refine Plan.nil ?_
                refine hK593 _ _ ?_; clear hK593
                refine W.condT rfl ?_
                refine W.seq_k fun K595 hK595 => ?_
                refine W.regionT [(0, true)] (by kernel_rfl) ?_
                refine Plan.assign_bool rfl rfl ?_
                refine Plan.nil ?_
                refine hK595 _ _ ?_; clear hK595
                refine W.ret (thenR_ret (finR_ret ?_))
                have h596 := St.pickT (C := [_, _, _, _, _, _, _, _, _, _]) h589 [] (by decide)
                simp only [pick, List.filterMap_cons, List.filterMap_nil, List.getElem?_cons_zero, List.getElem?_cons_succ, List.cons_append, List.nil_append] at h596
                subst r
                refine RetOk.mk (.tmp_bool rfl .nil) ?_
                obtain ⟨CF, hx1, hx2⟩ := hFr
                subst hx1
                have hdr := St.dropC (N := []) h596
                exact ⟨rfl, hdr⟩
              ·
                replace hR := ifF hR hc594
                refine Plan.cmpV (a := (((x_554 : Nat) : Int) : Int)) (b := (0 : Int)) (p := x_554 ≠ 0) (v := false) rfl rfl rfl rfl icmp_neN (decide_eq_false hc594) ?_
                refine Plan.move_bool rfl rfl ?_
                refine Plan.move_ptr rfl rfl ?_
                refine Plan.eqNil (b := true) FNetExact.ptr51 rfl rfl rfl rfl ?_
                refine Plan.pickFb rfl rfl rfl ?_
                refine Plan.move_bool rfl rfl ?_
                refine Plan.passed rfl ?_
                refine Plan.passed rfl ?_
                refine Plan.pickTb rfl rfl rfl ?_
                refine Plan.nil ?_
                refine hK593 _ _ ?_; clear hK593
                refine W.condT rfl ?_
                refine W.seq_k fun K597 hK597 => ?_
                refine W.regionT [(0, true)] (by kernel_rfl) ?_
                refine Plan.assign_bool rfl rfl ?_
                refine Plan.nil ?_
                refine hK597 _ _ ?_; clear hK597
                refine W.ret (thenR_ret (finR_ret ?_))
                have h598 := St.pickT (C := [_, _, _, _, _, _, _, _, _, _]) h589 [] (by decide)
                simp only [pick, List.filterMap_cons, List.filterMap_nil, List.getElem?_cons_zero, List.getElem?_cons_succ, List.cons_append, List.nil_append] at h598
                subst r
                refine RetOk.mk (.tmp_bool rfl .nil) ?_
                obtain ⟨CF, hx1, hx2⟩ := hFr
                subst hx1
                have hdr := St.dropC (N := []) h598
                exact ⟨rfl, hdr⟩
          ·
            refine Plan.call (vs := [VN 2, VN 3]) rfl FNetExact.call29 rfl (net_New_ok (w0 := w0) (LP := L) (by exact fun r hr => List.mem_append_right [_, _, _, _, _] ((fun _ h => h) r hr)) hr553 h442) ?_
            rintro _ w601 ⟨C601, b0_599, mw0_2_600, rfl, h601⟩
            replace h601 : St B (w0.on [mapR kvI (D60.at (C601 ++ L)) [] mw0_2_600 x_557]) _ _ := h601
            replace h601 := St.pool (N := [_, _, _, _]) (R := [_, _, _, _, _]) h601
            obtain ⟨L, hL602⟩ : ∃ X, X = C601 ++ L := ⟨_, rfl⟩
            have h602 := St.re (N := [_, _, _, _, _, _, _, _, _]) hL602 h601
            simp only [List.cons_append, List.nil_append] at h602
            replace hFr : Fr2 _ _ L L := hFr.step hL602 hL602
            obtain ⟨ix603, hv603⟩ : ∃ i, LV (D89.at L) L i ascript3 script3.length cscript3 script3 := ⟨_, by rw [hL602]; exact (LV.grow D89_lifts (fun r hr => List.mem_append_right _ hr) hv443).app _⟩
            have ho604 : LO (D60.at L) [] aw0_2_436 pw0_2_437 ((x_21).length) cw0_2_439 Fw0_2_440 x_21 := by rw [hL602]; exact LO.grow D60_lifts (fun r hr => List.mem_append_right _ hr) ho444
            have h606 := St.eqM (A' := L) h602 (i := 0) rfl hL602
            simp only [List.set_cons_zero, List.set_cons_succ] at h606
            refine ⟨_, rfl, .inl ⟨PIn.keep PIn.nil h606, ?_⟩⟩
            refine Plan.move_tuple rfl rfl ?_
            refine Plan.extract_ptr rfl rfl rfl ?_
            refine Plan.extract_int rfl rfl rfl ?_
            refine Plan.assign_ptr rfl rfl ?_
            refine Plan.assign_int rfl rfl ?_
            refine Plan.nil ?_
            refine hK552 _ _ ?_; clear hK552
            refine W.seq_k fun K607 hK607 => ?_
            refine W.regionT [(0, false), (1, true), (2, true), (3, true), (4, true), (5, true)] (by kernel_rfl) ?_
            rcases hR with ⟨x_609, hr608, hR⟩ | ⟨x_610, x_611, x_612, x_613, x_614, hr608, hR⟩
            ·
              refine Plan.call (vs := [VN 2, VN 3]) rfl FNetExact.call41 rfl (letheref23_New_ok (LP := L) (by exact fun r hr => List.mem_append_right [_, _, _, _, _, _, _, _, _] ((fun _ h => h) r hr)) hr608 h606) ?_
              rintro _ w615 ⟨C615, rfl, h615⟩
              replace h615 := St.pool (N := []) (R := [_, _, _, _, _, _, _, _, _]) h615
              obtain ⟨L, hL616⟩ : ∃ X, X = C615 ++ L := ⟨_, rfl⟩
              have h616 := St.re (N := [_, _, _, _, _, _, _, _, _]) hL616 h615
              simp only [List.cons_append, List.nil_append] at h616
              replace hFr : Fr2 _ _ L L := hFr.step hL616 hL616
              obtain ⟨ix617, hv617⟩ : ∃ i, LV (D89.at L) L i ascript3 script3.length cscript3 script3 := ⟨_, by rw [hL616]; exact (LV.grow D89_lifts (fun r hr => List.mem_append_right _ hr) hv603).app _⟩
              have ho618 : LO (D60.at L) [] aw0_2_436 pw0_2_437 ((x_21).length) cw0_2_439 Fw0_2_440 x_21 := by rw [hL616]; exact LO.grow D60_lifts (fun r hr => List.mem_append_right _ hr) ho604
              have h619 := St.liftM (LP' := L) h616 (i := 0) rfl D60_lifts (fun r hr => by rw [hL616]; exact List.mem_append_right _ hr)
              simp only [List.set_cons_zero, List.set_cons_succ] at h619
              refine ⟨_, rfl, .inl ⟨PIn.keep PIn.nil h619, ?_⟩⟩
              refine Plan.move_tuple rfl rfl ?_
              refine Plan.extract_ptr rfl rfl rfl ?_
              refine Plan.extract_int rfl rfl rfl ?_
              refine Plan.assign_ptr rfl rfl ?_
              refine Plan.assign_int rfl rfl ?_
              refine Plan.nil ?_
              refine hK607 _ _ ?_; clear hK607
              refine W.seq_k fun K620 hK620 => ?_
              refine W.regionT [(0, true), (1, true), (2, true), (3, true), (4, true), (5, true), (6, true), (7, true), (8, true), (9, true)] (by kernel_rfl) ?_
              refine Plan.move_int rfl rfl ?_
              by_cases hc621 : x_559 ≠ 0
              ·
                replace hR := ifT hR hc621
                refine Plan.cmpV (a := (((x_559 : Nat) : Int) : Int)) (b := (0 : Int)) (p := x_559 ≠ 0) (v := true) rfl rfl rfl rfl icmp_neN (decide_eq_true hc621) ?_
                refine Plan.move_bool rfl rfl ?_
                refine Plan.passed rfl ?_
                refine Plan.passed rfl ?_
                refine Plan.pickTb rfl rfl rfl ?_
                refine Plan.move_bool rfl rfl ?_
                refine Plan.passed rfl ?_
                refine Plan.passed rfl ?_
                refine Plan.pickTb rfl rfl rfl ?_
                refine Plan.nil ?_
                refine hK620 _ _ ?_; clear hK620
                refine W.condT rfl ?_
                refine W.seq_k fun K622 hK622 => ?_
                refine W.regionT [(0, true)] (by kernel_rfl) ?_
                refine Plan.assign_bool rfl rfl ?_
                refine Plan.nil ?_
                refine hK622 _ _ ?_; clear hK622
                refine W.ret (thenR_ret (finR_ret ?_))
                have h623 := St.pickT (C := [_, _, _, _, _, _, _, _, _]) h619 [] (by decide)
                simp only [pick, List.filterMap_cons, List.filterMap_nil, List.getElem?_cons_zero, List.getElem?_cons_succ, List.cons_append, List.nil_append] at h623
                have h624 : St B w0 _ _ := St.mpick (N := [mapR kvI (D60.at L) [] mw0_2_600 x_557]) (N' := []) h623 [] (by decide) rfl
                subst r
                refine RetOk.mk (.tmp_bool rfl .nil) ?_
                obtain ⟨CF, hx1, hx2⟩ := hFr
                subst hx1
                have hdr := St.dropC (N := []) h624
                exact ⟨rfl, hdr⟩
              ·
                replace hR := ifF hR hc621
                refine Plan.cmpV (a := (((x_559 : Nat) : Int) : Int)) (b := (0 : Int)) (p := x_559 ≠ 0) (v := false) rfl rfl rfl rfl icmp_neN (decide_eq_false hc621) ?_
                refine Plan.move_bool rfl rfl ?_
                refine Plan.move_ptr rfl rfl ?_
                refine Plan.eqNil (b := false) FNetExact.ptr51 rfl rfl rfl rfl ?_
                refine Plan.pickFb rfl rfl rfl ?_
                refine Plan.move_bool rfl rfl ?_
                refine Plan.move_int rfl rfl ?_
                refine Plan.cmpP (a := (((x_609 : Nat) : Int) : Int)) (b := (0 : Int)) (p := x_609 ≠ 0) rfl rfl rfl rfl icmp_neN ?_
                refine Plan.pickFb rfl rfl rfl ?_
                refine Plan.nil ?_
                refine hK620 _ _ ?_; clear hK620
                by_cases hc625 : x_609 ≠ 0
                ·
                  replace hR := ifT hR hc625
                  refine W.condT (congrArg Value.bool (decide_eq_true hc625)) ?_
                  refine W.seq_k fun K626 hK626 => ?_
                  refine W.regionT [(0, true)] (by kernel_rfl) ?_
                  refine Plan.assign_bool rfl rfl ?_
                  refine Plan.nil ?_
                  refine hK626 _ _ ?_; clear hK626
                  refine W.ret (thenR_ret (finR_ret ?_))
                  have h627 := St.pickT (C := [_, _, _, _, _, _, _, _, _]) h619 [] (by decide)
                  simp only [pick, List.filterMap_cons, List.filterMap_nil, List.getElem?_cons_zero, List.getElem?_cons_succ, List.cons_append, List.nil_append] at h627
                  have h628 : St B w0 _ _ := St.mpick (N := [mapR kvI (D60.at L) [] mw0_2_600 x_557]) (N' := []) h627 [] (by decide) rfl
                  subst r
                  refine RetOk.mk (.tmp_bool rfl .nil) ?_
                  obtain ⟨CF, hx1, hx2⟩ := hFr
                  subst hx1
                  have hdr := St.dropC (N := []) h628
                  exact ⟨rfl, hdr⟩
                ·
                  replace hR := ifF hR hc625
                  refine W.condF (congrArg Value.bool (decide_eq_false hc625)) ?_
                  refine W.skip ?_
                  refine hK458 _ _ ?_; clear hK458
                  refine W.seq_k fun K629 hK629 => ?_
                  refine W.seq_k fun K630 hK630 => ?_
                  refine W.regionT [(0, true)] (by kernel_rfl) ?_
                  refine Plan.assign_int rfl rfl ?_
                  refine Plan.nil ?_
                  refine hK630 _ _ ?_; clear hK630
                  obtain ⟨x640, hI640, hR0640⟩ := hR
                  refine W.cutN (fun e w => x640 = some () ∧ EnvHas e [(7, .pointer (some ⟨b0_599, 0, none⟩)), (9, .pointer none)] ∧ St B (w0.on [mapR kvI (D60.at L) [] mw0_2_600 x_557]) (⟨some b0_599, 0, 1, fun _ => .int .i64 x_555, true⟩ :: ⟨some b0_599, 1, 1, fun _ => .int .i64 x_556, true⟩ :: ⟨some b0_599, 2, 1, fun _ => .map (some mw0_2_600), true⟩ :: ⟨some b0_599, 3, 1, fun _ => VN x_558, true⟩ :: L) w) ?_ ?_
                  ·
                    refine W.block ?_
                    have h641 := St.pickT (C := [_, _, _, _, _, _, _, _, _]) h619 [0, 1, 2, 3] (by decide)
                    simp only [pick, List.filterMap_cons, List.filterMap_nil, List.getElem?_cons_zero, List.getElem?_cons_succ, List.cons_append, List.nil_append] at h641
                    refine W.iter hI640 (fun (s640 : Unit) e w => EnvHas e [(2, .slice ascript3 script3.length cscript3), (7, .pointer (some ⟨b0_599, 0, none⟩)), (9, .pointer none), (11, VN 0)] ∧ St B (w0.on [mapR kvI (D60.at L) [] mw0_2_600 x_557]) (⟨some b0_599, 0, 1, fun _ => .int .i64 x_555, true⟩ :: ⟨some b0_599, 1, 1, fun _ => .int .i64 x_556, true⟩ :: ⟨some b0_599, 2, 1, fun _ => .map (some mw0_2_600), true⟩ :: ⟨some b0_599, 3, 1, fun _ => VN x_558, true⟩ :: L) w) ⟨(EnvHas.cons rfl (EnvHas.cons rfl (EnvHas.cons rfl (EnvHas.cons rfl EnvHas.nil)))), h641⟩ ?_
                    rintro _ o640 hR hx640 ev642 wl642 ⟨he642, h642⟩
                    obtain ⟨ev642, rfl⟩ := he642.open
                    unfold lethelaw23_NetExact_l2 at hR
                    refine W.seq_k fun K643 hK643 => ?_
                    refine W.seq_k fun K646 hK646 => ?_
                    refine W.regionT [(0, true), (1, true), (2, true), (3, true), (4, true), (5, true), (6, true), (7, true)] (by kernel_rfl) ?_
                    refine Plan.move_int rfl rfl ?_
                    refine Plan.move_slice rfl rfl ?_
                    refine Plan.len FNetExact.isl83 rfl rfl ?_
                    by_cases hc647 : 0 < script3.length
                    ·
                      replace hR := ifT hR hc647
                      refine Plan.cmpV (a := (0 : Int)) (b := (((script3.length : Nat) : Int) : Int)) (p := 0 < script3.length) (v := true) rfl rfl rfl rfl icmp_ltN (decide_eq_true hc647) ?_
                      refine Plan.move_bool rfl rfl ?_
                      refine Plan.move_int rfl rfl ?_
                      refine Plan.cmpP (a := (0 : Int)) (b := (200 : Int)) (p := (0 : Nat) < 200) rfl rfl rfl rfl icmp_ltN ?_
                      refine Plan.pickTb rfl rfl rfl ?_
                      refine Plan.nil ?_
                      refine hK646 _ _ ?_; clear hK646
                      refine W.condT rfl ?_
                      refine W.skip ?_
                      refine hK643 _ _ ?_; clear hK643
                      refine W.seq_k fun K648 hK648 => ?_
                      refine W.block ?_
                      refine W.seq_k fun K649 hK649 => ?_
                      refine W.regionT [(0, true), (1, true), (2, true), (3, true), (4, true), (5, true), (6, false), (7, true)] (by kernel_rfl) ?_
                      refine Plan.move_ptr rfl rfl ?_
                      refine Plan.move_ptr rfl rfl ?_
                      refine Plan.move_slice rfl rfl ?_
                      refine Plan.move_int rfl rfl ?_
                      obtain ⟨hc650, hR⟩ := hR
                      refine Plan.idxLVS (D := (D89.at L)) (j := 0) h642 (hv617.app [_, _, _, _]) FNetExact.sl83 rfl rfl rfl hc650 ?_
                      refine Plan.loadLV (D := (D89.at L)) (X := script3) (j := 0) (sz := 5) h642 ((0 : Int), (0 : Int), (0 : Int), (0 : Int), ([] : List Byte)) (hv617.app [_, _, _, _]) rfl rfl hc650 rfl FNetExact.agg89 fun b651 r651 hs651 hr651 => ?_
                      obtain ⟨i651_4, hv651_4⟩ := hs651
                      exact hR.elim
                    ·
                      replace hR := ifF hR hc647
                      refine Plan.cmpV (a := (0 : Int)) (b := (((script3.length : Nat) : Int) : Int)) (p := 0 < script3.length) (v := false) rfl rfl rfl rfl icmp_ltN (decide_eq_false hc647) ?_
                      refine Plan.move_bool rfl rfl ?_
                      refine Plan.passed rfl ?_
                      refine Plan.passed rfl ?_
                      refine Plan.pickFb rfl rfl rfl ?_
                      refine Plan.nil ?_
                      refine hK646 _ _ ?_; clear hK646
                      refine W.condF rfl ?_
                      refine W.exit (thenR_exit (iterR_exit (blockR_here ?_)))
                      exact ⟨(hx640 _ hR).symm, (EnvHas.cons rfl (EnvHas.cons rfl EnvHas.nil)), h642⟩
                  ·
                    rintro ev652 wl652 ⟨hy652, he652, h652⟩
                    obtain ⟨ev652, rfl⟩ := he652.open
                    replace hR := hR0640  hy652
                    refine hK629 _ _ ?_; clear hK629
                    refine W.seq_k fun K653 hK653 => ?_
                    refine W.regionT [(0, true), (1, false), (2, true), (3, false), (4, false), (5, true), (6, true), (7, false), (8, true), (9, false), (10, true), (11, true), (12, true)] (by kernel_rfl) ?_
                    refine Plan.move_ptr rfl rfl ?_
                    obtain ⟨x_655, hr654, hR⟩ := hR
                    refine Plan.call (vs := [.pointer (some ⟨b0_599, 0, none⟩)]) rfl FNetExact.call32 rfl (net_Net_Flights_ok (w0 := w0) (LP := L) (by exact fun r hr => List.mem_append_right [] ((fun _ h => h) r hr)) hr654 (show St B (w0.on [mapR kvI (D60.at L) [] mw0_2_600 x_557]) _ _ from h652)) ?_
                    rintro _ w661 ⟨C661, ay0_656, py0_657, ny0_658, cy0_659, Fy0_660, rfl, h661, hf661_0⟩
                    replace h661 : St B (w0.on [mapR kvI (D60.at (C661 ++ L)) [] mw0_2_600 x_557]) _ _ := h661
                    replace h661 := St.pool (N := [_, _, _, _, _]) (R := []) h661
                    obtain ⟨L, hL662⟩ : ∃ X, X = C661 ++ L := ⟨_, rfl⟩
                    have h662 := St.re (N := [_, _, _, _, _]) hL662 h661
                    simp only [List.cons_append, List.nil_append] at h662
                    replace hFr : Fr2 _ _ L L := hFr.step hL662 hL662
                    have h664 := St.eqM (A' := L) h662 (i := 0) rfl hL662
                    simp only [List.set_cons_zero, List.set_cons_succ] at h664
                    obtain rfl := hf661_0.hl
                    have hd661_0 : LO (D60.at L) [] ay0_656 py0_657 (x_655).length cy0_659 Fy0_660 x_655 := LO.grow D60_lifts (fun r hr => (by rw [hL662]; exact hr)) hf661_0
                    refine ⟨_, rfl, .inl ⟨PIn.keep PIn.nil h664, ?_⟩⟩
                    refine Plan.move_ptr rfl rfl ?_
                    exact hR.elim
            ·
              refine Plan.call (vs := [VN 2, VN 3]) rfl FNetExact.call41 rfl (letheref23_New_ok (LP := L) (by exact fun r hr => List.mem_append_right [_, _, _, _, _, _, _, _, _] ((fun _ h => h) r hr)) hr608 h606) ?_
              rintro _ w671 ⟨C671, b0_665, aw0_2_666, pw0_2_667, nw0_2_668, cw0_2_669, Fw0_2_670, rfl, h671, hf671_0⟩
              try dsimp only at hf671_0
              obtain rfl := hf671_0.hl
              replace h671 := St.pool (N := [_, _, _, _, _]) (R := [_, _, _, _, _, _, _, _, _]) h671
              obtain ⟨L, hL672⟩ : ∃ X, X = C671 ++ L := ⟨_, rfl⟩
              have h672 := St.re (N := [_, _, _, _, _, _, _, _, _, _, _, _, _, _]) hL672 h671
              simp only [List.cons_append, List.nil_append] at h672
              replace hFr : Fr2 _ _ L L := hFr.step hL672 hL672
              obtain ⟨ix673, hv673⟩ : ∃ i, LV (D89.at L) L i ascript3 script3.length cscript3 script3 := ⟨_, by rw [hL672]; exact (LV.grow D89_lifts (fun r hr => List.mem_append_right _ hr) hv603).app _⟩
              have ho674 : LO (D60.at L) [] aw0_2_436 pw0_2_437 ((x_21).length) cw0_2_439 Fw0_2_440 x_21 := by rw [hL672]; exact LO.grow D60_lifts (fun r hr => List.mem_append_right _ hr) ho604
              have h675 := St.liftM (LP' := L) h672 (i := 0) rfl D60_lifts (fun r hr => by rw [hL672]; exact List.mem_append_right _ hr)
              simp only [List.set_cons_zero, List.set_cons_succ] at h675
              have ho676 : LO (D60.at L) [] aw0_2_666 pw0_2_667 ((x_612).length) cw0_2_669 Fw0_2_670 x_612 := LO.grow D60_lifts (fun r hr => (by rw [hL672]; exact hr)) hf671_0
              refine ⟨_, rfl, .inl ⟨PIn.keep PIn.nil h675, ?_⟩⟩
              refine Plan.move_tuple rfl rfl ?_
              refine Plan.extract_ptr rfl rfl rfl ?_
              refine Plan.extract_int rfl rfl rfl ?_
              refine Plan.assign_ptr rfl rfl ?_
              refine Plan.assign_int rfl rfl ?_
              refine Plan.nil ?_
              refine hK607 _ _ ?_; clear hK607
              refine W.seq_k fun K677 hK677 => ?_
              refine W.regionT [(0, true), (1, true), (2, true), (3, true), (4, true), (5, true), (6, true), (7, true), (8, true), (9, true)] (by kernel_rfl) ?_
              refine Plan.move_int rfl rfl ?_
              by_cases hc678 : x_559 ≠ 0
              ·
                replace hR := ifT hR hc678
                refine Plan.cmpV (a := (((x_559 : Nat) : Int) : Int)) (b := (0 : Int)) (p := x_559 ≠ 0) (v := true) rfl rfl rfl rfl icmp_neN (decide_eq_true hc678) ?_
                refine Plan.move_bool rfl rfl ?_
                refine Plan.passed rfl ?_
                refine Plan.passed rfl ?_
                refine Plan.pickTb rfl rfl rfl ?_
                refine Plan.move_bool rfl rfl ?_
                refine Plan.passed rfl ?_
                refine Plan.passed rfl ?_
                refine Plan.pickTb rfl rfl rfl ?_
                refine Plan.nil ?_
                refine hK677 _ _ ?_; clear hK677
                refine W.condT rfl ?_
                refine W.seq_k fun K679 hK679 => ?_
                refine W.regionT [(0, true)] (by kernel_rfl) ?_
                refine Plan.assign_bool rfl rfl ?_
                refine Plan.nil ?_
                refine hK679 _ _ ?_; clear hK679
                refine W.ret (thenR_ret (finR_ret ?_))
                have h680 := St.pickT (C := [_, _, _, _, _, _, _, _, _, _, _, _, _, _]) h675 [] (by decide)
                simp only [pick, List.filterMap_cons, List.filterMap_nil, List.getElem?_cons_zero, List.getElem?_cons_succ, List.cons_append, List.nil_append] at h680
                have h681 : St B w0 _ _ := St.mpick (N := [mapR kvI (D60.at L) [] mw0_2_600 x_557]) (N' := []) h680 [] (by decide) rfl
                subst r
                refine RetOk.mk (.tmp_bool rfl .nil) ?_
                obtain ⟨CF, hx1, hx2⟩ := hFr
                subst hx1
                have hdr := St.dropC (N := []) h681
                exact ⟨rfl, hdr⟩
              ·
                replace hR := ifF hR hc678
                refine Plan.cmpV (a := (((x_559 : Nat) : Int) : Int)) (b := (0 : Int)) (p := x_559 ≠ 0) (v := false) rfl rfl rfl rfl icmp_neN (decide_eq_false hc678) ?_
                refine Plan.move_bool rfl rfl ?_
                refine Plan.move_ptr rfl rfl ?_
                refine Plan.eqNil (b := false) FNetExact.ptr51 rfl rfl rfl rfl ?_
                refine Plan.pickFb rfl rfl rfl ?_
                refine Plan.move_bool rfl rfl ?_
                refine Plan.move_int rfl rfl ?_
                refine Plan.cmpP (a := (((x_614 : Nat) : Int) : Int)) (b := (0 : Int)) (p := x_614 ≠ 0) rfl rfl rfl rfl icmp_neN ?_
                refine Plan.pickFb rfl rfl rfl ?_
                refine Plan.nil ?_
                refine hK677 _ _ ?_; clear hK677
                by_cases hc682 : x_614 ≠ 0
                ·
                  replace hR := ifT hR hc682
                  refine W.condT (congrArg Value.bool (decide_eq_true hc682)) ?_
                  refine W.seq_k fun K683 hK683 => ?_
                  refine W.regionT [(0, true)] (by kernel_rfl) ?_
                  refine Plan.assign_bool rfl rfl ?_
                  refine Plan.nil ?_
                  refine hK683 _ _ ?_; clear hK683
                  refine W.ret (thenR_ret (finR_ret ?_))
                  have h684 := St.pickT (C := [_, _, _, _, _, _, _, _, _, _, _, _, _, _]) h675 [] (by decide)
                  simp only [pick, List.filterMap_cons, List.filterMap_nil, List.getElem?_cons_zero, List.getElem?_cons_succ, List.cons_append, List.nil_append] at h684
                  have h685 : St B w0 _ _ := St.mpick (N := [mapR kvI (D60.at L) [] mw0_2_600 x_557]) (N' := []) h684 [] (by decide) rfl
                  subst r
                  refine RetOk.mk (.tmp_bool rfl .nil) ?_
                  obtain ⟨CF, hx1, hx2⟩ := hFr
                  subst hx1
                  have hdr := St.dropC (N := []) h685
                  exact ⟨rfl, hdr⟩
                ·
                  replace hR := ifF hR hc682
                  refine W.condF (congrArg Value.bool (decide_eq_false hc682)) ?_
                  refine W.skip ?_
                  refine hK458 _ _ ?_; clear hK458
                  refine W.seq_k fun K686 hK686 => ?_
                  refine W.seq_k fun K687 hK687 => ?_
                  refine W.regionT [(0, true)] (by kernel_rfl) ?_
                  refine Plan.assign_int rfl rfl ?_
                  refine Plan.nil ?_
                  refine hK687 _ _ ?_; clear hK687
                  have hFj769 : Fr2 L L L L := Fr2.refl _ _
                  obtain ⟨x769, hI769, hR0769⟩ := hR
                  refine W.cutN (fun e w => ∃ y_mp765 : List (Int × (Int × Int × Int × (List Byte))), ∃ y_m766 : List (Int × Int × Int × (List Byte)), ∃ y_m767 : Int, ∃ y_m768 : Int, x769 = some (y_mp765, y_m766, y_m767, y_m768) ∧ ∃ CG LG : List Rg, LG = CG ++ L ∧ ∃ L : List Rg, L = LG ∧ ∃ n_m766 : Nat, ∃ am766 : Option Addr, ∃ pm766 : Option Nat, ∃ cm766 : Nat, ∃ Fm766 : Nat → Value, EnvHas e [(7, .pointer (some ⟨b0_599, 0, none⟩)), (9, .pointer (some ⟨b0_665, 0, none⟩))] ∧ St B (w0.on [mapR kvI (D60.at L) [] mw0_2_600 y_mp765]) (⟨pm766, 0, cm766 * 4, Fm766, true⟩ :: ⟨some b0_665, 0, 1, fun _ => .int .i64 x_610, true⟩ :: ⟨some b0_665, 1, 1, fun _ => .int .i64 x_611, true⟩ :: ⟨some b0_665, 2, 1, fun _ => .slice am766 n_m766 cm766, true⟩ :: ⟨some b0_665, 3, 1, fun _ => .int .i64 y_m767, true⟩ :: ⟨some b0_599, 0, 1, fun _ => .int .i64 x_555, true⟩ :: ⟨some b0_599, 1, 1, fun _ => .int .i64 x_556, true⟩ :: ⟨some b0_599, 2, 1, fun _ => .map (some mw0_2_600), true⟩ :: ⟨some b0_599, 3, 1, fun _ => .int .i64 y_m768, true⟩ :: L) w ∧ LO (D60.at L) [] am766 pm766 n_m766 cm766 Fm766 y_m766) ?_ ?_
                  ·
                    refine W.block ?_
                    have h770 := St.pickT (C := [_, _, _, _, _, _, _, _, _, _, _, _, _, _]) h675 [3, 0, 1, 2, 4, 5, 6, 7, 8] (by decide)
                    simp only [pick, List.filterMap_cons, List.filterMap_nil, List.getElem?_cons_zero, List.getElem?_cons_succ, List.cons_append, List.nil_append] at h770
                    refine W.iter hI769 (fun (s769 : ((List (Int × (Int × Int × Int × (List Byte)))) × Nat × (List (Int × Int × Int × (List Byte))) × Int × Int)) e w => ∃ CG LG : List Rg, LG = CG ++ L ∧ ∃ L : List Rg, L = LG ∧ ∃ n_m762 : Nat, ∃ am762 : Option Addr, ∃ pm762 : Option Nat, ∃ cm762 : Nat, ∃ Fm762 : Nat → Value, EnvHas e [(2, .slice ascript3 script3.length cscript3), (7, .pointer (some ⟨b0_599, 0, none⟩)), (9, .pointer (some ⟨b0_665, 0, none⟩)), (11, VN s769.2.1)] ∧ St B (w0.on [mapR kvI (D60.at L) [] mw0_2_600 s769.1]) (⟨pm762, 0, cm762 * 4, Fm762, true⟩ :: ⟨some b0_665, 0, 1, fun _ => .int .i64 x_610, true⟩ :: ⟨some b0_665, 1, 1, fun _ => .int .i64 x_611, true⟩ :: ⟨some b0_665, 2, 1, fun _ => .slice am762 n_m762 cm762, true⟩ :: ⟨some b0_665, 3, 1, fun _ => .int .i64 s769.2.2.2.1, true⟩ :: ⟨some b0_599, 0, 1, fun _ => .int .i64 x_555, true⟩ :: ⟨some b0_599, 1, 1, fun _ => .int .i64 x_556, true⟩ :: ⟨some b0_599, 2, 1, fun _ => .map (some mw0_2_600), true⟩ :: ⟨some b0_599, 3, 1, fun _ => .int .i64 s769.2.2.2.2, true⟩ :: L) w ∧ LO (D60.at L) [] am762 pm762 n_m762 cm762 Fm762 s769.2.2.1) ⟨[], L, rfl, L, rfl, x_612.length, aw0_2_666, pw0_2_667, cw0_2_669, Fw0_2_670, (EnvHas.cons rfl (EnvHas.cons rfl (EnvHas.cons rfl (EnvHas.cons rfl EnvHas.nil)))), h770, ho676⟩ ?_
                    rintro ⟨mp760, i_761, m762, m763, m764⟩ o769 hR hx769 ev771 wl771 ⟨CG771, LG771, hlg771, L, hLe771, n_m762, am762, pm762, cm762, Fm762, he771, h771, hm762⟩
                    try dsimp only at he771 h771 hm762
                    obtain rfl : List.length (α := (Int × Int × Int × (List Byte))) m762 = n_m762 := hm762.hl
                    obtain ⟨ev771, rfl⟩ := he771.open
                    unfold lethelaw23_NetExact_l3 at hR
                    have hL771 := hLe771.trans hlg771
                    replace hFr : Fr2 _ _ L L := hFr.step hL771 hL771
                    replace hFj769 : Fr2 _ _ L L := hFj769.step hL771 hL771
                    obtain ⟨ix773, hv773⟩ : ∃ i, LV (D89.at L) L i ascript3 script3.length cscript3 script3 := ⟨_, by rw [hL771]; exact (LV.grow D89_lifts (fun r hr => List.mem_append_right _ hr) hv673).app _⟩
                    refine W.seq_k fun K774 hK774 => ?_
                    refine W.seq_k fun K778 hK778 => ?_
                    refine W.regionT [(0, true), (1, true), (2, true), (3, true), (4, true), (5, true), (6, true), (7, true)] (by kernel_rfl) ?_
                    refine Plan.move_int rfl rfl ?_
                    refine Plan.move_slice rfl rfl ?_
                    refine Plan.len FNetExact.isl83 rfl rfl ?_
                    by_cases hc779 : i_761 < script3.length
                    ·
                      replace hR := ifT hR hc779
                      refine Plan.cmpV (a := (((i_761 : Nat) : Int) : Int)) (b := (((script3.length : Nat) : Int) : Int)) (p := i_761 < script3.length) (v := true) rfl rfl rfl rfl icmp_ltN (decide_eq_true hc779) ?_
                      refine Plan.move_bool rfl rfl ?_
                      refine Plan.move_int rfl rfl ?_
                      refine Plan.cmpP (a := (((i_761 : Nat) : Int) : Int)) (b := (200 : Int)) (p := i_761 < 200) rfl rfl rfl rfl icmp_ltN ?_
                      refine Plan.pickTb rfl rfl rfl ?_
                      refine Plan.nil ?_
                      refine hK778 _ _ ?_; clear hK778
                      by_cases hc780 : i_761 < 200
                      ·
                        replace hR := ifT hR hc780
                        refine W.condT (congrArg Value.bool (decide_eq_true hc780)) ?_
                        refine W.skip ?_
                        refine hK774 _ _ ?_; clear hK774
                        refine W.seq_k fun K781 hK781 => ?_
                        refine W.block ?_
                        refine W.seq_k fun K782 hK782 => ?_
                        refine W.regionT [(0, true), (1, true), (2, true), (3, true), (4, true), (5, true), (6, false), (7, true)] (by kernel_rfl) ?_
                        refine Plan.move_ptr rfl rfl ?_
                        refine Plan.move_ptr rfl rfl ?_
                        refine Plan.move_slice rfl rfl ?_
                        refine Plan.move_int rfl rfl ?_
                        obtain ⟨hc783, hR⟩ := hR
                        refine Plan.idxLVS (D := (D89.at L)) (j := i_761) h771 (hv773.app [_, _, _, _, _, _, _, _, _]) FNetExact.sl83 rfl rfl rfl hc783 ?_
                        refine Plan.loadLV (D := (D89.at L)) (X := script3) (j := i_761) (sz := 5) h771 ((0 : Int), (0 : Int), (0 : Int), (0 : Int), ([] : List Byte)) (hv773.app [_, _, _, _, _, _, _, _, _]) rfl rfl hc783 rfl FNetExact.agg89 fun b784 r784 hs784 hr784 => ?_
                        obtain ⟨i784_4, hv784_4⟩ := hs784
                        have h785 := St.pickT (C := [_, _, _, _, _, _, _, _, _]) h771 [5, 6, 7, 8, 1, 2, 3, 0, 4] (by decide)
                        simp only [pick, List.filterMap_cons, List.filterMap_nil, List.getElem?_cons_zero, List.getElem?_cons_succ, List.cons_append, List.nil_append] at h785
                        obtain ⟨x_787, x_788, x_789, x_790, x_791, hr786, hR⟩ := hR
                        refine Plan.call (vs := [.pointer (some ⟨b0_599, 0, none⟩), .pointer (some ⟨b0_665, 0, none⟩), AG [(1, fun _ => .int .i64 ((script3.getD i_761 ((0 : Int), (0 : Int), (0 : Int), (0 : Int), ([] : List Byte))).1)), (1, fun _ => .int .i64 ((script3.getD i_761 ((0 : Int), (0 : Int), (0 : Int), (0 : Int), ([] : List Byte))).2.1)), (1, fun _ => .int .i64 ((script3.getD i_761 ((0 : Int), (0 : Int), (0 : Int), (0 : Int), ([] : List Byte))).2.2.1)), (1, fun _ => .int .i64 ((script3.getD i_761 ((0 : Int), (0 : Int), (0 : Int), (0 : Int), ([] : List Byte))).2.2.2.1)), (1, fun _ => .slice ((b784).1) (((script3.getD i_761 ((0 : Int), (0 : Int), (0 : Int), (0 : Int), ([] : List Byte))).2.2.2.2).length) ((b784).2))]]) rfl FNetExact.call42 rfl (lethelaw23_step_ok (w0 := w0) (LP := L) (by exact fun r hr => List.mem_append_right [] ((fun _ h => h) r hr)) (by exact LO.grow D60_lifts (fun r hr => hr) hm762) (by exact ⟨_, hv784_4⟩) hr786 (show St B (w0.on [mapR kvI (D60.at L) [] mw0_2_600 mp760]) _ _ from h785)) ?_
                        rintro _ w797 ⟨C797, aqrRow9_792, pqrRow9_793, nqrRow9_794, cqrRow9_795, FqrRow9_796, rfl, h797, hf797_0⟩
                        replace h797 : St B (w0.on [mapR kvI (D60.at (C797 ++ L)) [] mw0_2_600 x_791]) _ _ := h797
                        try dsimp only at hf797_0
                        obtain rfl := hf797_0.hl
                        replace h797 := St.pool (N := [_, _, _, _, _, _, _, _, _]) (R := []) h797
                        obtain ⟨L, hL798⟩ : ∃ X, X = C797 ++ L := ⟨_, rfl⟩
                        have h798 := St.re (N := [_, _, _, _, _, _, _, _, _]) hL798 h797
                        simp only [List.cons_append, List.nil_append] at h798
                        replace hFr : Fr2 _ _ L L := hFr.step hL798 hL798
                        replace hFj769 : Fr2 _ _ L L := hFj769.step hL798 hL798
                        obtain ⟨ix799, hv799⟩ : ∃ i, LV (D89.at L) L i ascript3 script3.length cscript3 script3 := ⟨_, by rw [hL798]; exact (LV.grow D89_lifts (fun r hr => List.mem_append_right _ hr) hv773).app _⟩
                        obtain ⟨ix800, hv800⟩ : ∃ i, Bx L i ((b784).1) (((script3.getD i_761 ((0 : Int), (0 : Int), (0 : Int), (0 : Int), ([] : List Byte))).2.2.2.2).length) ((b784).2) ((script3.getD i_761 ((0 : Int), (0 : Int), (0 : Int), (0 : Int), ([] : List Byte))).2.2.2.2) := ⟨_, by rw [hL798]; exact hv784_4.app _⟩
                        obtain ⟨jx802, hj802⟩ : ∃ j : Nat, L[j]? = some r784 := ⟨_, by rw [hL798]; exact flget (i := ix773) hr784 _⟩
                        have h803 := St.eqM (A' := L) h798 (i := 0) rfl hL798
                        simp only [List.set_cons_zero, List.set_cons_succ] at h803
                        have ho804 : LO (D60.at L) [] aqrRow9_792 pqrRow9_793 ((x_789).length) cqrRow9_795 FqrRow9_796 x_789 := LO.grow D60_lifts (fun r hr => (by rw [hL798]; exact hr)) hf797_0
                        refine ⟨_, rfl, .inr ⟨rfl, ?_⟩⟩
                        refine Plan.not rfl rfl ?_
                        refine Plan.nil ?_
                        refine hK782 _ _ ?_; clear hK782
                        by_cases hc805 : x_787 = true
                        ·
                          replace hR := ifT hR hc805
                          refine W.condF (congrArg Value.bool (congrArg Bool.not hc805)) ?_
                          refine W.skip ?_
                          refine blockR_norm ?_
                          refine hK781 _ _ ?_; clear hK781
                          refine W.regionT [(0, true), (1, true), (2, true)] (by kernel_rfl) ?_
                          refine Plan.move_int rfl rfl ?_
                          refine Plan.addN (a := i_761) (b := 1) rfl rfl rfl (by omega) ?_
                          refine Plan.assign_int rfl rfl ?_
                          refine Plan.nil ?_
                          have h806 := St.pickT (C := [_, _, _, _, _, _, _, _, _]) h803 [7, 4, 5, 6, 8, 0, 1, 2, 3] (by decide)
                          simp only [pick, List.filterMap_cons, List.filterMap_nil, List.getElem?_cons_zero, List.getElem?_cons_succ, List.cons_append, List.nil_append] at h806
                          obtain ⟨CF807, hx807, hy807⟩ := hFj769
                          exact iterR_norm ⟨_, hR, CF807, L, hx807, L, rfl, x_789.length, aqrRow9_792, pqrRow9_793, cqrRow9_795, FqrRow9_796, (EnvHas.cons rfl (EnvHas.cons rfl (EnvHas.cons rfl (EnvHas.cons rfl EnvHas.nil)))), h806, ho804⟩
                        ·
                          replace hR := ifF hR hc805
                          refine W.condT (congrArg Value.bool (congrArg Bool.not (Bool.eq_false_iff.2 hc805))) ?_
                          refine W.seq_k fun K808 hK808 => ?_
                          refine W.regionT [(0, true)] (by kernel_rfl) ?_
                          refine Plan.assign_bool rfl rfl ?_
                          refine Plan.nil ?_
                          refine hK808 _ _ ?_; clear hK808
                          refine W.ret (blockR_ret (thenR_ret (iterR_ret (blockR_ret (thenR_ret (thenR_ret (finR_ret ?_)))))))
                          have h809 := St.pickT (C := [_, _, _, _, _, _, _, _, _]) h803 [] (by decide)
                          simp only [pick, List.filterMap_cons, List.filterMap_nil, List.getElem?_cons_zero, List.getElem?_cons_succ, List.cons_append, List.nil_append] at h809
                          have h810 : St B w0 _ _ := St.mpick (N := [mapR kvI (D60.at L) [] mw0_2_600 x_791]) (N' := []) h809 [] (by decide) rfl
                          replace hR := hR.2
                          subst r
                          refine RetOk.mk (.tmp_bool rfl .nil) ?_
                          obtain ⟨CF, hx1, hx2⟩ := hFr
                          subst hx1
                          have hdr := St.dropC (N := []) h810
                          exact ⟨rfl, hdr⟩
                      ·
                        replace hR := ifF hR hc780
                        refine W.condF (congrArg Value.bool (decide_eq_false hc780)) ?_
                        refine W.exit (thenR_exit (iterR_exit (blockR_here ?_)))
                        obtain ⟨CF811, hx811, hy811⟩ := hFj769
                        exact ⟨mp760, m762, m763, m764, (hx769 _ hR).symm, CF811, L, hx811, L, rfl, m762.length, am762, pm762, cm762, Fm762, (EnvHas.cons rfl (EnvHas.cons rfl EnvHas.nil)), h771, hm762⟩
                    ·
                      replace hR := ifF hR hc779
                      refine Plan.cmpV (a := (((i_761 : Nat) : Int) : Int)) (b := (((script3.length : Nat) : Int) : Int)) (p := i_761 < script3.length) (v := false) rfl rfl rfl rfl icmp_ltN (decide_eq_false hc779) ?_
                      refine Plan.move_bool rfl rfl ?_
                      refine Plan.passed rfl ?_
                      refine Plan.passed rfl ?_
                      refine Plan.pickFb rfl rfl rfl ?_
                      refine Plan.nil ?_
                      refine hK778 _ _ ?_; clear hK778
                      refine W.condF rfl ?_
                      refine W.exit (thenR_exit (iterR_exit (blockR_here ?_)))
                      obtain ⟨CF812, hx812, hy812⟩ := hFj769
                      exact ⟨mp760, m762, m763, m764, (hx769 _ hR).symm, CF812, L, hx812, L, rfl, m762.length, am762, pm762, cm762, Fm762, (EnvHas.cons rfl (EnvHas.cons rfl EnvHas.nil)), h771, hm762⟩
                  ·
                    rintro ev813 wl813 ⟨y_mp765, y_m766, y_m767, y_m768, hy813, CG813, LG813, hlg813, L, hLe813, n_m766, am766, pm766, cm766, Fm766, he813, h813, hm766⟩
                    obtain ⟨ev813, rfl⟩ := he813.open
                    replace hR := hR0769 y_mp765 y_m766 y_m767 y_m768 hy813
                    obtain ⟨mp765, e_mp765⟩ : ∃ z, z = y_mp765 := ⟨_, rfl⟩; subst e_mp765
                    obtain ⟨m766, e_m766⟩ : ∃ z, z = y_m766 := ⟨_, rfl⟩; subst e_m766
                    obtain ⟨m767, e_m767⟩ : ∃ z, z = y_m767 := ⟨_, rfl⟩; subst e_m767
                    obtain ⟨m768, e_m768⟩ : ∃ z, z = y_m768 := ⟨_, rfl⟩; subst e_m768
                    obtain rfl : List.length (α := (Int × Int × Int × (List Byte))) m766 = n_m766 := hm766.hl
                    have hL813 := hLe813.trans hlg813
                    replace hFr : Fr2 _ _ L L := hFr.step hL813 hL813
                    replace hFj769 : Fr2 _ _ L L := hFj769.step hL813 hL813
                    refine hK686 _ _ ?_; clear hK686
                    refine W.seq_k fun K815 hK815 => ?_
                    refine W.regionT [(0, true), (1, false), (2, true), (3, false), (4, false), (5, true), (6, true), (7, false), (8, true), (9, false), (10, true), (11, true), (12, true)] (by kernel_rfl) ?_
                    refine Plan.move_ptr rfl rfl ?_
                    have h816 := St.pickT (C := [_, _, _, _, _, _, _, _, _]) h813 [5, 6, 7, 8, 0, 1, 2, 3, 4] (by decide)
                    simp only [pick, List.filterMap_cons, List.filterMap_nil, List.getElem?_cons_zero, List.getElem?_cons_succ, List.cons_append, List.nil_append] at h816
                    obtain ⟨x_818, hr817, hR⟩ := hR
                    refine Plan.call (vs := [.pointer (some ⟨b0_599, 0, none⟩)]) rfl FNetExact.call32 rfl (net_Net_Flights_ok (w0 := w0) (LP := L) (by exact fun r hr => List.mem_append_right [_, _, _, _, _] ((fun _ h => h) r hr)) hr817 (show St B (w0.on [mapR kvI (D60.at L) [] mw0_2_600 mp765]) _ _ from h816)) ?_
                    rintro _ w824 ⟨C824, ay0_819, py0_820, ny0_821, cy0_822, Fy0_823, rfl, h824, hf824_0⟩
                    replace h824 : St B (w0.on [mapR kvI (D60.at (C824 ++ L)) [] mw0_2_600 mp765]) _ _ := h824
                    replace h824 := St.pool (N := [_, _, _, _, _]) (R := [_, _, _, _, _]) h824
                    obtain ⟨L, hL825⟩ : ∃ X, X = C824 ++ L := ⟨_, rfl⟩
                    have h825 := St.re (N := [_, _, _, _, _, _, _, _, _, _]) hL825 h824
                    simp only [List.cons_append, List.nil_append] at h825
                    replace hFr : Fr2 _ _ L L := hFr.step hL825 hL825
                    replace hFj769 : Fr2 _ _ L L := hFj769.step hL825 hL825
                    have ho826 : LO (D60.at L) [] am766 pm766 ((m766).length) cm766 Fm766 m766 := by rw [hL825]; exact LO.grow D60_lifts (fun r hr => List.mem_append_right _ hr) hm766
                    have h828 := St.eqM (A' := L) h825 (i := 0) rfl hL825
                    simp only [List.set_cons_zero, List.set_cons_succ] at h828
                    obtain rfl := hf824_0.hl
                    have hd824_0 : LO (D60.at L) [] ay0_819 py0_820 (x_818).length cy0_822 Fy0_823 x_818 := LO.grow D60_lifts (fun r hr => (by rw [hL825]; exact hr)) hf824_0
                    refine ⟨_, rfl, .inl ⟨PIn.keep PIn.nil h828, ?_⟩⟩
                    refine Plan.move_ptr rfl rfl ?_
                    have h829 := St.pickT (C := [_, _, _, _, _, _, _, _, _, _]) h828 [6, 7, 8, 5, 9, 0, 1, 2, 3, 4] (by decide)
                    simp only [pick, List.filterMap_cons, List.filterMap_nil, List.getElem?_cons_zero, List.getElem?_cons_succ, List.cons_append, List.nil_append] at h829
                    obtain ⟨x_831, x_832, hr830, hR⟩ := hR
                    refine Plan.call (vs := [.pointer (some ⟨b0_665, 0, none⟩)]) rfl FNetExact.call44 rfl (letheref23_Net_Flights_ok (LP := L) (by exact fun r hr => List.mem_append_right [_, _, _, _, _] ((fun _ h => h) r hr)) (by exact LO.grow D60_lifts (fun r hr => hr) ho826) hr830 h829) ?_
                    rintro _ w843 ⟨C843, ay0_833, py0_834, ny0_835, cy0_836, Fy0_837, aqnRow4_838, pqnRow4_839, nqnRow4_840, cqnRow4_841, FqnRow4_842, rfl, h843, hf843_0, hf843_1⟩
                    try dsimp only at hf843_0 hf843_1
                    obtain rfl := hf843_1.hl
                    replace h843 := St.pool (N := [_, _, _, _, _, _]) (R := [_, _, _, _, _]) h843
                    obtain ⟨L, hL844⟩ : ∃ X, X = C843 ++ L := ⟨_, rfl⟩
                    have h844 := St.re (N := [_, _, _, _, _, _, _, _, _, _, _]) hL844 h843
                    simp only [List.cons_append, List.nil_append] at h844
                    replace hFr : Fr2 _ _ L L := hFr.step hL844 hL844
                    replace hFj769 : Fr2 _ _ L L := hFj769.step hL844 hL844
                    have ho845 : LO (D60.at L) [] ay0_819 py0_820 ((x_818).length) cy0_822 Fy0_823 x_818 := by rw [hL844]; exact LO.grow D60_lifts (fun r hr => List.mem_append_right _ hr) hd824_0
                    have h846 := St.liftM (LP' := L) h844 (i := 0) rfl D60_lifts (fun r hr => by rw [hL844]; exact List.mem_append_right _ hr)
                    simp only [List.set_cons_zero, List.set_cons_succ] at h846
                    have ho847 : LO (D60.at L) [] aqnRow4_838 pqnRow4_839 ((x_832).length) cqnRow4_841 FqnRow4_842 x_832 := LO.grow D60_lifts (fun r hr => (by rw [hL844]; exact hr)) hf843_1
                    obtain rfl := hf843_0.hl
                    have hd843_0 : LO (D60.at L) [] ay0_833 py0_834 (x_831).length cy0_836 Fy0_837 x_831 := LO.grow D60_lifts (fun r hr => (by rw [hL844]; exact hr)) hf843_0
                    refine ⟨_, rfl, .inl ⟨PIn.keep PIn.nil h846, ?_⟩⟩
                    obtain ⟨x_849, hr848, hR⟩ := hR
                    refine Plan.call (vs := [.slice ay0_819 x_818.length cy0_822, .slice ay0_833 x_831.length cy0_836]) rfl FNetExact.call43 rfl (lethelaw23_sameAll_ok (by exact (LV.grow D60_lifts (fun r hr => List.mem_append_right [_, _, _, _, _, _, _, _, _, _, _] ((fun _ h => h) r hr)) (LO.lvf EL.at_flat ho845 6 rfl))) (by exact (LV.grow D60_lifts (fun r hr => List.mem_append_right [_, _, _, _, _, _, _, _, _, _, _] ((fun _ h => h) r hr)) (LO.lvf EL.at_flat hd843_0 0 rfl))) hr848 h846) ?_
                    rintro _ w850 ⟨rfl, h850⟩
                    refine ⟨_, rfl, .inl ⟨PIn.keep PIn.nil h850, ?_⟩⟩
                    by_cases hc851 : x_849 = true
                    ·
                      replace hR := ifT hR hc851
                      obtain rfl : x_849 = true := hc851
                      refine Plan.move_bool rfl rfl ?_
                      refine Plan.move_ptr rfl rfl ?_
                      have h852 := St.pickT (C := [_, _, _, _, _, _, _, _, _, _, _]) h850 [7, 8, 9, 10, 0, 1, 2, 3, 4, 5, 6] (by decide)
                      simp only [pick, List.filterMap_cons, List.filterMap_nil, List.getElem?_cons_zero, List.getElem?_cons_succ, List.cons_append, List.nil_append] at h852
                      obtain ⟨x_854, hr853, hR⟩ := hR
                      refine Plan.call (vs := [.pointer (some ⟨b0_599, 0, none⟩)]) rfl FNetExact.call45 rfl (net_Net_Next_ok (w0 := w0) (LP := L) (by exact fun r hr => List.mem_append_right [_, _, _, _, _, _, _] ((fun _ h => h) r hr)) hr853 (show St B (w0.on [mapR kvI (D60.at L) [] mw0_2_600 mp765]) _ _ from h852)) ?_
                      rintro _ w855 ⟨C855, rfl, h855⟩
                      replace h855 : St B (w0.on [mapR kvI (D60.at (C855 ++ L)) [] mw0_2_600 mp765]) _ _ := h855
                      replace h855 := St.pool (N := [_, _, _, _]) (R := [_, _, _, _, _, _, _]) h855
                      obtain ⟨L, hL856⟩ : ∃ X, X = C855 ++ L := ⟨_, rfl⟩
                      have h856 := St.re (N := [_, _, _, _, _, _, _, _, _, _, _]) hL856 h855
                      simp only [List.cons_append, List.nil_append] at h856
                      replace hFr : Fr2 _ _ L L := hFr.step hL856 hL856
                      replace hFj769 : Fr2 _ _ L L := hFj769.step hL856 hL856
                      have ho857 : LO (D60.at L) [] ay0_833 py0_834 ((x_831).length) cy0_836 Fy0_837 x_831 := by rw [hL856]; exact LO.grow D60_lifts (fun r hr => List.mem_append_right _ hr) hd843_0
                      have ho858 : LO (D60.at L) [] aqnRow4_838 pqnRow4_839 ((x_832).length) cqnRow4_841 FqnRow4_842 x_832 := by rw [hL856]; exact LO.grow D60_lifts (fun r hr => List.mem_append_right _ hr) ho847
                      have ho859 : LO (D60.at L) [] ay0_819 py0_820 ((x_818).length) cy0_822 Fy0_823 x_818 := by rw [hL856]; exact LO.grow D60_lifts (fun r hr => List.mem_append_right _ hr) ho845
                      have h861 := St.eqM (A' := L) h856 (i := 0) rfl hL856
                      simp only [List.set_cons_zero, List.set_cons_succ] at h861
                      refine ⟨_, rfl, .inl ⟨PIn.keep PIn.nil h861, ?_⟩⟩
                      refine Plan.move_ptr rfl rfl ?_
                      have h862 := St.pickT (C := [_, _, _, _, _, _, _, _, _, _, _]) h861 [5, 6, 7, 9, 0, 1, 2, 3, 4, 8, 10] (by decide)
                      simp only [pick, List.filterMap_cons, List.filterMap_nil, List.getElem?_cons_zero, List.getElem?_cons_succ, List.cons_append, List.nil_append] at h862
                      obtain ⟨x_864, hr863, hR⟩ := hR
                      refine Plan.call (vs := [.pointer (some ⟨b0_665, 0, none⟩)]) rfl FNetExact.call46 rfl (letheref23_Net_Next_ok (by exact (LV.grow D60_lifts (fun r hr => List.mem_append_right [_, _, _, _, _, _, _] ((fun _ h => h) r hr)) (LO.lvf EL.at_flat ho858 5 rfl))) hr863 h862) ?_
                      rintro _ w865 ⟨rfl, h865⟩
                      refine ⟨_, rfl, .inl ⟨PIn.keep PIn.nil h865, ?_⟩⟩
                      refine Plan.cmpP (a := (x_854 : Int)) (b := (x_864 : Int)) (p := x_854 = x_864) rfl rfl rfl rfl icmp_eq ?_
                      refine Plan.pickTb rfl rfl rfl ?_
                      refine Plan.assign_bool rfl rfl ?_
                      refine Plan.nil ?_
                      refine hK815 _ _ ?_; clear hK815
                      refine W.ret (finR_ret ?_)
                      have h866 := St.pickT (C := [_, _, _, _, _, _, _, _, _, _, _]) h865 [] (by decide)
                      simp only [pick, List.filterMap_cons, List.filterMap_nil, List.getElem?_cons_zero, List.getElem?_cons_succ, List.cons_append, List.nil_append] at h866
                      have h867 : St B w0 _ _ := St.mpick (N := [mapR kvI (D60.at L) [] mw0_2_600 mp765]) (N' := []) h866 [] (by decide) rfl
                      subst r
                      refine RetOk.mk (.tmp_bool rfl .nil) ?_
                      obtain ⟨CF, hx1, hx2⟩ := hFr
                      subst hx1
                      have hdr := St.dropC (N := []) h867
                      exact ⟨rfl, hdr⟩
                    ·
                      replace hR := ifF hR hc851
                      obtain rfl : x_849 = false := Bool.eq_false_iff.2 hc851
                      refine Plan.move_bool rfl rfl ?_
                      refine Plan.passed rfl ?_
                      refine Plan.passed rfl ?_
                      refine Plan.passed rfl ?_
                      refine Plan.passed rfl ?_
                      refine Plan.passed rfl ?_
                      refine Plan.pickFb rfl rfl rfl ?_
                      refine Plan.assign_bool rfl rfl ?_
                      refine Plan.nil ?_
                      refine hK815 _ _ ?_; clear hK815
                      refine W.ret (finR_ret ?_)
                      have h868 := St.pickT (C := [_, _, _, _, _, _, _, _, _, _, _]) h850 [] (by decide)
                      simp only [pick, List.filterMap_cons, List.filterMap_nil, List.getElem?_cons_zero, List.getElem?_cons_succ, List.cons_append, List.nil_append] at h868
                      have h869 : St B w0 _ _ := St.mpick (N := [mapR kvI (D60.at L) [] mw0_2_600 mp765]) (N' := []) h868 [] (by decide) rfl
                      subst r
                      refine RetOk.mk (.tmp_bool rfl .nil) ?_
                      obtain ⟨CF, hx1, hx2⟩ := hFr
                      subst hx1
                      have hdr := St.dropC (N := []) h869
                      exact ⟨rfl, hdr⟩
  ·
    refine Plan.call (vs := [.int .i64 nodes1, .int .i64 most2]) rfl FNetExact.call29 rfl (net_New_ok (w0 := w0) (LP := L) (by exact fun r hr => List.mem_append_right [] ((fun _ h => h) r hr)) hr6 HST) ?_
    rintro _ w872 ⟨C872, b0_870, mw0_2_871, rfl, h872⟩
    replace h872 : St B (w0.on [mapR kvI (D60.at (C872 ++ L)) [] mw0_2_871 x_10]) _ _ := h872
    replace h872 := St.pool (N := [_, _, _, _]) (R := []) h872
    obtain ⟨L, hL873⟩ : ∃ X, X = C872 ++ L := ⟨_, rfl⟩
    have h873 := St.re (N := [_, _, _, _]) hL873 h872
    simp only [List.cons_append, List.nil_append] at h873
    replace hFr : Fr2 _ _ L L := hFr.step hL873 hL873
    obtain ⟨ix874, hv874⟩ : ∃ i, LV (D89.at L) L i ascript3 script3.length cscript3 script3 := ⟨_, by rw [hL873]; exact (LV.grow D89_lifts (fun r hr => List.mem_append_right _ hr) hscript3).app _⟩
    have h876 := St.eqM (A' := L) h873 (i := 0) rfl hL873
    simp only [List.set_cons_zero, List.set_cons_succ] at h876
    refine ⟨_, rfl, .inl ⟨PIn.keep PIn.nil h876, ?_⟩⟩
    refine Plan.move_tuple rfl rfl ?_
    refine Plan.extract_ptr rfl rfl rfl ?_
    refine Plan.extract_int rfl rfl rfl ?_
    refine Plan.assign_ptr rfl rfl ?_
    refine Plan.assign_int rfl rfl ?_
    refine Plan.nil ?_
    refine hK5 _ _ ?_; clear hK5
    refine W.seq_k fun K877 hK877 => ?_
    refine W.regionT [(0, true), (1, true), (2, false), (3, true), (4, true), (5, true), (6, true), (7, true)] (by kernel_rfl) ?_
    refine Plan.move_int rfl rfl ?_
    refine Plan.move_int rfl rfl ?_
    rcases hR with ⟨x_879, hr878, hR⟩ | ⟨x_880, x_881, x_882, x_883, x_884, hr878, hR⟩
    ·
      refine Plan.call (vs := [.int .i64 nodes1, .int .i64 most2]) rfl FNetExact.call41 rfl (letheref23_New_ok (LP := L) (by exact fun r hr => List.mem_append_right [_, _, _, _] ((fun _ h => h) r hr)) hr878 h876) ?_
      rintro _ w885 ⟨C885, rfl, h885⟩
      replace h885 := St.pool (N := []) (R := [_, _, _, _]) h885
      obtain ⟨L, hL886⟩ : ∃ X, X = C885 ++ L := ⟨_, rfl⟩
      have h886 := St.re (N := [_, _, _, _]) hL886 h885
      simp only [List.cons_append, List.nil_append] at h886
      replace hFr : Fr2 _ _ L L := hFr.step hL886 hL886
      obtain ⟨ix887, hv887⟩ : ∃ i, LV (D89.at L) L i ascript3 script3.length cscript3 script3 := ⟨_, by rw [hL886]; exact (LV.grow D89_lifts (fun r hr => List.mem_append_right _ hr) hv874).app _⟩
      have h888 := St.liftM (LP' := L) h886 (i := 0) rfl D60_lifts (fun r hr => by rw [hL886]; exact List.mem_append_right _ hr)
      simp only [List.set_cons_zero, List.set_cons_succ] at h888
      refine ⟨_, rfl, .inl ⟨PIn.keep PIn.nil h888, ?_⟩⟩
      refine Plan.move_tuple rfl rfl ?_
      refine Plan.extract_ptr rfl rfl rfl ?_
      refine Plan.extract_int rfl rfl rfl ?_
      refine Plan.assign_ptr rfl rfl ?_
      refine Plan.assign_int rfl rfl ?_
      refine Plan.nil ?_
      refine hK877 _ _ ?_; clear hK877
      refine W.seq_k fun K889 hK889 => ?_
      refine W.seq_k fun K895 hK895 => ?_
      refine W.regionT [(0, true), (1, true), (2, true), (3, true), (4, true), (5, true), (6, true), (7, true), (8, true), (9, true)] (by kernel_rfl) ?_
      refine Plan.move_int rfl rfl ?_
      refine Plan.move_int rfl rfl ?_
      by_cases hc896 : x_12 ≠ x_879
      ·
        replace hR := ifT hR hc896
        refine Plan.cmpV (a := (((x_12 : Nat) : Int) : Int)) (b := (((x_879 : Nat) : Int) : Int)) (p := x_12 ≠ x_879) (v := true) rfl rfl rfl rfl icmp_neN (decide_eq_true hc896) ?_
        refine Plan.move_bool rfl rfl ?_
        refine Plan.passed rfl ?_
        refine Plan.passed rfl ?_
        refine Plan.passed rfl ?_
        refine Plan.passed rfl ?_
        refine Plan.passed rfl ?_
        refine Plan.pickTb rfl rfl rfl ?_
        refine Plan.nil ?_
        refine hK895 _ _ ?_; clear hK895
        refine W.condT rfl ?_
        refine W.seq_k fun K897 hK897 => ?_
        refine W.regionT [(0, true)] (by kernel_rfl) ?_
        refine Plan.assign_bool rfl rfl ?_
        refine Plan.nil ?_
        refine hK897 _ _ ?_; clear hK897
        refine W.ret (thenR_ret (finR_ret ?_))
        have h898 := St.pickT (C := [_, _, _, _]) h888 [] (by decide)
        simp only [pick, List.filterMap_cons, List.filterMap_nil, List.getElem?_cons_zero, List.getElem?_cons_succ, List.cons_append, List.nil_append] at h898
        have h899 : St B w0 _ _ := St.mpick (N := [mapR kvI (D60.at L) [] mw0_2_871 x_10]) (N' := []) h898 [] (by decide) rfl
        subst r
        refine RetOk.mk (.tmp_bool rfl .nil) ?_
        obtain ⟨CF, hx1, hx2⟩ := hFr
        subst hx1
        have hdr := St.dropC (N := []) h899
        exact ⟨rfl, hdr⟩
      ·
        replace hR := ifF hR hc896
        refine Plan.cmpV (a := (((x_12 : Nat) : Int) : Int)) (b := (((x_879 : Nat) : Int) : Int)) (p := x_12 ≠ x_879) (v := false) rfl rfl rfl rfl icmp_neN (decide_eq_false hc896) ?_
        refine Plan.move_bool rfl rfl ?_
        refine Plan.move_ptr rfl rfl ?_
        refine Plan.eqNil (b := false) FNetExact.ptr51 rfl rfl rfl rfl ?_
        refine Plan.move_ptr rfl rfl ?_
        refine Plan.eqNil (b := true) FNetExact.ptr84 rfl rfl rfl rfl ?_
        refine Plan.neBoolV (v := (false != true)) FNetExact.bool4 rfl rfl rfl rfl ?_
        refine Plan.pickFb rfl rfl rfl ?_
        refine Plan.nil ?_
        refine hK895 _ _ ?_; clear hK895
        by_cases hc900 : (false != true) = true
        ·
          replace hR := ifT hR hc900
          refine W.condT (congrArg Value.bool hc900) ?_
          refine W.seq_k fun K901 hK901 => ?_
          refine W.regionT [(0, true)] (by kernel_rfl) ?_
          refine Plan.assign_bool rfl rfl ?_
          refine Plan.nil ?_
          refine hK901 _ _ ?_; clear hK901
          refine W.ret (thenR_ret (finR_ret ?_))
          have h902 := St.pickT (C := [_, _, _, _]) h888 [] (by decide)
          simp only [pick, List.filterMap_cons, List.filterMap_nil, List.getElem?_cons_zero, List.getElem?_cons_succ, List.cons_append, List.nil_append] at h902
          have h903 : St B w0 _ _ := St.mpick (N := [mapR kvI (D60.at L) [] mw0_2_871 x_10]) (N' := []) h902 [] (by decide) rfl
          subst r
          refine RetOk.mk (.tmp_bool rfl .nil) ?_
          obtain ⟨CF, hx1, hx2⟩ := hFr
          subst hx1
          have hdr := St.dropC (N := []) h903
          exact ⟨rfl, hdr⟩
        ·
          replace hR := ifF hR hc900
          refine W.condF (congrArg Value.bool (Bool.eq_false_iff.2 hc900)) ?_
          refine W.skip ?_
          refine hK889 _ _ ?_; clear hK889
          refine W.seq_k fun K904 hK904 => ?_
          refine W.seq_k fun K906 hK906 => ?_
          refine W.regionT [(0, true), (1, true)] (by kernel_rfl) ?_
          refine Plan.move_ptr rfl rfl ?_
          refine Plan.eqNil (b := false) FNetExact.ptr51 rfl rfl rfl rfl ?_
          refine Plan.nil ?_
          refine hK906 _ _ ?_; clear hK906
          refine W.condF rfl ?_
          refine W.skip ?_
          refine hK904 _ _ ?_; clear hK904
          refine W.seq_k fun K907 hK907 => ?_
          refine W.seq_k fun K908 hK908 => ?_
          refine W.regionT [(0, true)] (by kernel_rfl) ?_
          refine Plan.assign_int rfl rfl ?_
          refine Plan.nil ?_
          refine hK908 _ _ ?_; clear hK908
          obtain ⟨x918, hI918, hR0918⟩ := hR
          refine W.cutN (fun e w => x918 = some () ∧ EnvHas e [(7, .pointer (some ⟨b0_870, 0, none⟩)), (9, .pointer none)] ∧ St B (w0.on [mapR kvI (D60.at L) [] mw0_2_871 x_10]) (⟨some b0_870, 0, 1, fun _ => .int .i64 x_8, true⟩ :: ⟨some b0_870, 1, 1, fun _ => .int .i64 x_9, true⟩ :: ⟨some b0_870, 2, 1, fun _ => .map (some mw0_2_871), true⟩ :: ⟨some b0_870, 3, 1, fun _ => VN x_11, true⟩ :: L) w) ?_ ?_
          ·
            refine W.block ?_
            refine W.iter hI918 (fun (s918 : Unit) e w => EnvHas e [(2, .slice ascript3 script3.length cscript3), (7, .pointer (some ⟨b0_870, 0, none⟩)), (9, .pointer none), (11, VN 0)] ∧ St B (w0.on [mapR kvI (D60.at L) [] mw0_2_871 x_10]) (⟨some b0_870, 0, 1, fun _ => .int .i64 x_8, true⟩ :: ⟨some b0_870, 1, 1, fun _ => .int .i64 x_9, true⟩ :: ⟨some b0_870, 2, 1, fun _ => .map (some mw0_2_871), true⟩ :: ⟨some b0_870, 3, 1, fun _ => VN x_11, true⟩ :: L) w) ⟨(EnvHas.cons rfl (EnvHas.cons rfl (EnvHas.cons rfl (EnvHas.cons rfl EnvHas.nil)))), h888⟩ ?_
            rintro _ o918 hR hx918 ev919 wl919 ⟨he919, h919⟩
            obtain ⟨ev919, rfl⟩ := he919.open
            unfold lethelaw23_NetExact_l4 at hR
            refine W.seq_k fun K920 hK920 => ?_
            refine W.seq_k fun K923 hK923 => ?_
            refine W.regionT [(0, true), (1, true), (2, true), (3, true), (4, true), (5, true), (6, true), (7, true)] (by kernel_rfl) ?_
            refine Plan.move_int rfl rfl ?_
            refine Plan.move_slice rfl rfl ?_
            refine Plan.len FNetExact.isl83 rfl rfl ?_
            by_cases hc924 : 0 < script3.length
            ·
              replace hR := ifT hR hc924
              refine Plan.cmpV (a := (0 : Int)) (b := (((script3.length : Nat) : Int) : Int)) (p := 0 < script3.length) (v := true) rfl rfl rfl rfl icmp_ltN (decide_eq_true hc924) ?_
              refine Plan.move_bool rfl rfl ?_
              refine Plan.move_int rfl rfl ?_
              refine Plan.cmpP (a := (0 : Int)) (b := (200 : Int)) (p := (0 : Nat) < 200) rfl rfl rfl rfl icmp_ltN ?_
              refine Plan.pickTb rfl rfl rfl ?_
              refine Plan.nil ?_
              refine hK923 _ _ ?_; clear hK923
              refine W.condT rfl ?_
              refine W.skip ?_
              refine hK920 _ _ ?_; clear hK920
              refine W.seq_k fun K925 hK925 => ?_
              refine W.block ?_
              refine W.seq_k fun K926 hK926 => ?_
              refine W.regionT [(0, true), (1, true), (2, true), (3, true), (4, true), (5, true), (6, false), (7, true)] (by kernel_rfl) ?_
              refine Plan.move_ptr rfl rfl ?_
              refine Plan.move_ptr rfl rfl ?_
              refine Plan.move_slice rfl rfl ?_
              refine Plan.move_int rfl rfl ?_
              obtain ⟨hc927, hR⟩ := hR
              refine Plan.idxLVS (D := (D89.at L)) (j := 0) h919 (hv887.app [_, _, _, _]) FNetExact.sl83 rfl rfl rfl hc927 ?_
              refine Plan.loadLV (D := (D89.at L)) (X := script3) (j := 0) (sz := 5) h919 ((0 : Int), (0 : Int), (0 : Int), (0 : Int), ([] : List Byte)) (hv887.app [_, _, _, _]) rfl rfl hc927 rfl FNetExact.agg89 fun b928 r928 hs928 hr928 => ?_
              obtain ⟨i928_4, hv928_4⟩ := hs928
              exact hR.elim
            ·
              replace hR := ifF hR hc924
              refine Plan.cmpV (a := (0 : Int)) (b := (((script3.length : Nat) : Int) : Int)) (p := 0 < script3.length) (v := false) rfl rfl rfl rfl icmp_ltN (decide_eq_false hc924) ?_
              refine Plan.move_bool rfl rfl ?_
              refine Plan.passed rfl ?_
              refine Plan.passed rfl ?_
              refine Plan.pickFb rfl rfl rfl ?_
              refine Plan.nil ?_
              refine hK923 _ _ ?_; clear hK923
              refine W.condF rfl ?_
              refine W.exit (thenR_exit (iterR_exit (blockR_here ?_)))
              exact ⟨(hx918 _ hR).symm, (EnvHas.cons rfl (EnvHas.cons rfl EnvHas.nil)), h919⟩
          ·
            rintro ev929 wl929 ⟨hy929, he929, h929⟩
            obtain ⟨ev929, rfl⟩ := he929.open
            replace hR := hR0918  hy929
            refine hK907 _ _ ?_; clear hK907
            refine W.seq_k fun K930 hK930 => ?_
            refine W.regionT [(0, true), (1, false), (2, true), (3, false), (4, false), (5, true), (6, true), (7, false), (8, true), (9, false), (10, true), (11, true), (12, true)] (by kernel_rfl) ?_
            refine Plan.move_ptr rfl rfl ?_
            obtain ⟨x_932, hr931, hR⟩ := hR
            refine Plan.call (vs := [.pointer (some ⟨b0_870, 0, none⟩)]) rfl FNetExact.call32 rfl (net_Net_Flights_ok (w0 := w0) (LP := L) (by exact fun r hr => List.mem_append_right [] ((fun _ h => h) r hr)) hr931 (show St B (w0.on [mapR kvI (D60.at L) [] mw0_2_871 x_10]) _ _ from h929)) ?_
            rintro _ w938 ⟨C938, ay0_933, py0_934, ny0_935, cy0_936, Fy0_937, rfl, h938, hf938_0⟩
            replace h938 : St B (w0.on [mapR kvI (D60.at (C938 ++ L)) [] mw0_2_871 x_10]) _ _ := h938
            replace h938 := St.pool (N := [_, _, _, _, _]) (R := []) h938
            obtain ⟨L, hL939⟩ : ∃ X, X = C938 ++ L := ⟨_, rfl⟩
            have h939 := St.re (N := [_, _, _, _, _]) hL939 h938
            simp only [List.cons_append, List.nil_append] at h939
            replace hFr : Fr2 _ _ L L := hFr.step hL939 hL939
            have h941 := St.eqM (A' := L) h939 (i := 0) rfl hL939
            simp only [List.set_cons_zero, List.set_cons_succ] at h941
            obtain rfl := hf938_0.hl
            have hd938_0 : LO (D60.at L) [] ay0_933 py0_934 (x_932).length cy0_936 Fy0_937 x_932 := LO.grow D60_lifts (fun r hr => (by rw [hL939]; exact hr)) hf938_0
            refine ⟨_, rfl, .inl ⟨PIn.keep PIn.nil h941, ?_⟩⟩
            refine Plan.move_ptr rfl rfl ?_
            exact hR.elim
    ·
      refine Plan.call (vs := [.int .i64 nodes1, .int .i64 most2]) rfl FNetExact.call41 rfl (letheref23_New_ok (LP := L) (by exact fun r hr => List.mem_append_right [_, _, _, _] ((fun _ h => h) r hr)) hr878 h876) ?_
      rintro _ w948 ⟨C948, b0_942, aw0_2_943, pw0_2_944, nw0_2_945, cw0_2_946, Fw0_2_947, rfl, h948, hf948_0⟩
      try dsimp only at hf948_0
      obtain rfl := hf948_0.hl
      replace h948 := St.pool (N := [_, _, _, _, _]) (R := [_, _, _, _]) h948
      obtain ⟨L, hL949⟩ : ∃ X, X = C948 ++ L := ⟨_, rfl⟩
      have h949 := St.re (N := [_, _, _, _, _, _, _, _, _]) hL949 h948
      simp only [List.cons_append, List.nil_append] at h949
      replace hFr : Fr2 _ _ L L := hFr.step hL949 hL949
      obtain ⟨ix950, hv950⟩ : ∃ i, LV (D89.at L) L i ascript3 script3.length cscript3 script3 := ⟨_, by rw [hL949]; exact (LV.grow D89_lifts (fun r hr => List.mem_append_right _ hr) hv874).app _⟩
      have h951 := St.liftM (LP' := L) h949 (i := 0) rfl D60_lifts (fun r hr => by rw [hL949]; exact List.mem_append_right _ hr)
      simp only [List.set_cons_zero, List.set_cons_succ] at h951
      have ho952 : LO (D60.at L) [] aw0_2_943 pw0_2_944 ((x_882).length) cw0_2_946 Fw0_2_947 x_882 := LO.grow D60_lifts (fun r hr => (by rw [hL949]; exact hr)) hf948_0
      refine ⟨_, rfl, .inl ⟨PIn.keep PIn.nil h951, ?_⟩⟩
      refine Plan.move_tuple rfl rfl ?_
      refine Plan.extract_ptr rfl rfl rfl ?_
      refine Plan.extract_int rfl rfl rfl ?_
      refine Plan.assign_ptr rfl rfl ?_
      refine Plan.assign_int rfl rfl ?_
      refine Plan.nil ?_
      refine hK877 _ _ ?_; clear hK877
      refine W.seq_k fun K953 hK953 => ?_
      refine W.seq_k fun K959 hK959 => ?_
      refine W.regionT [(0, true), (1, true), (2, true), (3, true), (4, true), (5, true), (6, true), (7, true), (8, true), (9, true)] (by kernel_rfl) ?_
      refine Plan.move_int rfl rfl ?_
      refine Plan.move_int rfl rfl ?_
      by_cases hc960 : x_12 ≠ x_884
      ·
        replace hR := ifT hR hc960
        refine Plan.cmpV (a := (((x_12 : Nat) : Int) : Int)) (b := (((x_884 : Nat) : Int) : Int)) (p := x_12 ≠ x_884) (v := true) rfl rfl rfl rfl icmp_neN (decide_eq_true hc960) ?_
        refine Plan.move_bool rfl rfl ?_
        refine Plan.passed rfl ?_
        refine Plan.passed rfl ?_
        refine Plan.passed rfl ?_
        refine Plan.passed rfl ?_
        refine Plan.passed rfl ?_
        refine Plan.pickTb rfl rfl rfl ?_
        refine Plan.nil ?_
        refine hK959 _ _ ?_; clear hK959
        refine W.condT rfl ?_
        refine W.seq_k fun K961 hK961 => ?_
        refine W.regionT [(0, true)] (by kernel_rfl) ?_
        refine Plan.assign_bool rfl rfl ?_
        refine Plan.nil ?_
        refine hK961 _ _ ?_; clear hK961
        refine W.ret (thenR_ret (finR_ret ?_))
        have h962 := St.pickT (C := [_, _, _, _, _, _, _, _, _]) h951 [] (by decide)
        simp only [pick, List.filterMap_cons, List.filterMap_nil, List.getElem?_cons_zero, List.getElem?_cons_succ, List.cons_append, List.nil_append] at h962
        have h963 : St B w0 _ _ := St.mpick (N := [mapR kvI (D60.at L) [] mw0_2_871 x_10]) (N' := []) h962 [] (by decide) rfl
        subst r
        refine RetOk.mk (.tmp_bool rfl .nil) ?_
        obtain ⟨CF, hx1, hx2⟩ := hFr
        subst hx1
        have hdr := St.dropC (N := []) h963
        exact ⟨rfl, hdr⟩
      ·
        replace hR := ifF hR hc960
        refine Plan.cmpV (a := (((x_12 : Nat) : Int) : Int)) (b := (((x_884 : Nat) : Int) : Int)) (p := x_12 ≠ x_884) (v := false) rfl rfl rfl rfl icmp_neN (decide_eq_false hc960) ?_
        refine Plan.move_bool rfl rfl ?_
        refine Plan.move_ptr rfl rfl ?_
        refine Plan.eqNil (b := false) FNetExact.ptr51 rfl rfl rfl rfl ?_
        refine Plan.move_ptr rfl rfl ?_
        refine Plan.eqNil (b := false) FNetExact.ptr84 rfl rfl rfl rfl ?_
        refine Plan.neBoolV (v := (false != false)) FNetExact.bool4 rfl rfl rfl rfl ?_
        refine Plan.pickFb rfl rfl rfl ?_
        refine Plan.nil ?_
        refine hK959 _ _ ?_; clear hK959
        by_cases hc964 : (false != false) = true
        ·
          replace hR := ifT hR hc964
          refine W.condT (congrArg Value.bool hc964) ?_
          refine W.seq_k fun K965 hK965 => ?_
          refine W.regionT [(0, true)] (by kernel_rfl) ?_
          refine Plan.assign_bool rfl rfl ?_
          refine Plan.nil ?_
          refine hK965 _ _ ?_; clear hK965
          refine W.ret (thenR_ret (finR_ret ?_))
          have h966 := St.pickT (C := [_, _, _, _, _, _, _, _, _]) h951 [] (by decide)
          simp only [pick, List.filterMap_cons, List.filterMap_nil, List.getElem?_cons_zero, List.getElem?_cons_succ, List.cons_append, List.nil_append] at h966
          have h967 : St B w0 _ _ := St.mpick (N := [mapR kvI (D60.at L) [] mw0_2_871 x_10]) (N' := []) h966 [] (by decide) rfl
          subst r
          refine RetOk.mk (.tmp_bool rfl .nil) ?_
          obtain ⟨CF, hx1, hx2⟩ := hFr
          subst hx1
          have hdr := St.dropC (N := []) h967
          exact ⟨rfl, hdr⟩
        ·
          replace hR := ifF hR hc964
          refine W.condF (congrArg Value.bool (Bool.eq_false_iff.2 hc964)) ?_
          refine W.skip ?_
          refine hK953 _ _ ?_; clear hK953
          refine W.seq_k fun K968 hK968 => ?_
          refine W.seq_k fun K970 hK970 => ?_
          refine W.regionT [(0, true), (1, true)] (by kernel_rfl) ?_
          refine Plan.move_ptr rfl rfl ?_
          refine Plan.eqNil (b := false) FNetExact.ptr51 rfl rfl rfl rfl ?_
          refine Plan.nil ?_
          refine hK970 _ _ ?_; clear hK970
          refine W.condF rfl ?_
          refine W.skip ?_
          refine hK968 _ _ ?_; clear hK968
          refine W.seq_k fun K971 hK971 => ?_
          refine W.seq_k fun K972 hK972 => ?_
          refine W.regionT [(0, true)] (by kernel_rfl) ?_
          refine Plan.assign_int rfl rfl ?_
          refine Plan.nil ?_
          refine hK972 _ _ ?_; clear hK972
          have hFj1054 : Fr2 L L L L := Fr2.refl _ _
          obtain ⟨x1054, hI1054, hR01054⟩ := hR
          refine W.cutN (fun e w => ∃ y_mp1050 : List (Int × (Int × Int × Int × (List Byte))), ∃ y_m1051 : List (Int × Int × Int × (List Byte)), ∃ y_m1052 : Int, ∃ y_m1053 : Int, x1054 = some (y_mp1050, y_m1051, y_m1052, y_m1053) ∧ ∃ CG LG : List Rg, LG = CG ++ L ∧ ∃ L : List Rg, L = LG ∧ ∃ n_m1051 : Nat, ∃ am1051 : Option Addr, ∃ pm1051 : Option Nat, ∃ cm1051 : Nat, ∃ Fm1051 : Nat → Value, EnvHas e [(7, .pointer (some ⟨b0_870, 0, none⟩)), (9, .pointer (some ⟨b0_942, 0, none⟩))] ∧ St B (w0.on [mapR kvI (D60.at L) [] mw0_2_871 y_mp1050]) (⟨pm1051, 0, cm1051 * 4, Fm1051, true⟩ :: ⟨some b0_942, 0, 1, fun _ => .int .i64 x_880, true⟩ :: ⟨some b0_942, 1, 1, fun _ => .int .i64 x_881, true⟩ :: ⟨some b0_942, 2, 1, fun _ => .slice am1051 n_m1051 cm1051, true⟩ :: ⟨some b0_942, 3, 1, fun _ => .int .i64 y_m1052, true⟩ :: ⟨some b0_870, 0, 1, fun _ => .int .i64 x_8, true⟩ :: ⟨some b0_870, 1, 1, fun _ => .int .i64 x_9, true⟩ :: ⟨some b0_870, 2, 1, fun _ => .map (some mw0_2_871), true⟩ :: ⟨some b0_870, 3, 1, fun _ => .int .i64 y_m1053, true⟩ :: L) w ∧ LO (D60.at L) [] am1051 pm1051 n_m1051 cm1051 Fm1051 y_m1051) ?_ ?_
          ·
            refine W.block ?_
            have h1055 := St.pickT (C := [_, _, _, _, _, _, _, _, _]) h951 [3, 0, 1, 2, 4, 5, 6, 7, 8] (by decide)
            simp only [pick, List.filterMap_cons, List.filterMap_nil, List.getElem?_cons_zero, List.getElem?_cons_succ, List.cons_append, List.nil_append] at h1055
            refine W.iter hI1054 (fun (s1054 : ((List (Int × (Int × Int × Int × (List Byte)))) × Nat × (List (Int × Int × Int × (List Byte))) × Int × Int)) e w => ∃ CG LG : List Rg, LG = CG ++ L ∧ ∃ L : List Rg, L = LG ∧ ∃ n_m1047 : Nat, ∃ am1047 : Option Addr, ∃ pm1047 : Option Nat, ∃ cm1047 : Nat, ∃ Fm1047 : Nat → Value, EnvHas e [(2, .slice ascript3 script3.length cscript3), (7, .pointer (some ⟨b0_870, 0, none⟩)), (9, .pointer (some ⟨b0_942, 0, none⟩)), (11, VN s1054.2.1)] ∧ St B (w0.on [mapR kvI (D60.at L) [] mw0_2_871 s1054.1]) (⟨pm1047, 0, cm1047 * 4, Fm1047, true⟩ :: ⟨some b0_942, 0, 1, fun _ => .int .i64 x_880, true⟩ :: ⟨some b0_942, 1, 1, fun _ => .int .i64 x_881, true⟩ :: ⟨some b0_942, 2, 1, fun _ => .slice am1047 n_m1047 cm1047, true⟩ :: ⟨some b0_942, 3, 1, fun _ => .int .i64 s1054.2.2.2.1, true⟩ :: ⟨some b0_870, 0, 1, fun _ => .int .i64 x_8, true⟩ :: ⟨some b0_870, 1, 1, fun _ => .int .i64 x_9, true⟩ :: ⟨some b0_870, 2, 1, fun _ => .map (some mw0_2_871), true⟩ :: ⟨some b0_870, 3, 1, fun _ => .int .i64 s1054.2.2.2.2, true⟩ :: L) w ∧ LO (D60.at L) [] am1047 pm1047 n_m1047 cm1047 Fm1047 s1054.2.2.1) ⟨[], L, rfl, L, rfl, x_882.length, aw0_2_943, pw0_2_944, cw0_2_946, Fw0_2_947, (EnvHas.cons rfl (EnvHas.cons rfl (EnvHas.cons rfl (EnvHas.cons rfl EnvHas.nil)))), h1055, ho952⟩ ?_
            rintro ⟨mp1045, i_1046, m1047, m1048, m1049⟩ o1054 hR hx1054 ev1056 wl1056 ⟨CG1056, LG1056, hlg1056, L, hLe1056, n_m1047, am1047, pm1047, cm1047, Fm1047, he1056, h1056, hm1047⟩
            try dsimp only at he1056 h1056 hm1047
            obtain rfl : List.length (α := (Int × Int × Int × (List Byte))) m1047 = n_m1047 := hm1047.hl
            obtain ⟨ev1056, rfl⟩ := he1056.open
            unfold lethelaw23_NetExact_l5 at hR
            have hL1056 := hLe1056.trans hlg1056
            replace hFr : Fr2 _ _ L L := hFr.step hL1056 hL1056
            replace hFj1054 : Fr2 _ _ L L := hFj1054.step hL1056 hL1056
            obtain ⟨ix1058, hv1058⟩ : ∃ i, LV (D89.at L) L i ascript3 script3.length cscript3 script3 := ⟨_, by rw [hL1056]; exact (LV.grow D89_lifts (fun r hr => List.mem_append_right _ hr) hv950).app _⟩
            refine W.seq_k fun K1059 hK1059 => ?_
            refine W.seq_k fun K1063 hK1063 => ?_
            refine W.regionT [(0, true), (1, true), (2, true), (3, true), (4, true), (5, true), (6, true), (7, true)] (by kernel_rfl) ?_
            refine Plan.move_int rfl rfl ?_
            refine Plan.move_slice rfl rfl ?_
            refine Plan.len FNetExact.isl83 rfl rfl ?_
            by_cases hc1064 : i_1046 < script3.length
            ·
              replace hR := ifT hR hc1064
              refine Plan.cmpV (a := (((i_1046 : Nat) : Int) : Int)) (b := (((script3.length : Nat) : Int) : Int)) (p := i_1046 < script3.length) (v := true) rfl rfl rfl rfl icmp_ltN (decide_eq_true hc1064) ?_
              refine Plan.move_bool rfl rfl ?_
              refine Plan.move_int rfl rfl ?_
              refine Plan.cmpP (a := (((i_1046 : Nat) : Int) : Int)) (b := (200 : Int)) (p := i_1046 < 200) rfl rfl rfl rfl icmp_ltN ?_
              refine Plan.pickTb rfl rfl rfl ?_
              refine Plan.nil ?_
              refine hK1063 _ _ ?_; clear hK1063
              by_cases hc1065 : i_1046 < 200
              ·
                replace hR := ifT hR hc1065
                refine W.condT (congrArg Value.bool (decide_eq_true hc1065)) ?_
                refine W.skip ?_
                refine hK1059 _ _ ?_; clear hK1059
                refine W.seq_k fun K1066 hK1066 => ?_
                refine W.block ?_
                refine W.seq_k fun K1067 hK1067 => ?_
                refine W.regionT [(0, true), (1, true), (2, true), (3, true), (4, true), (5, true), (6, false), (7, true)] (by kernel_rfl) ?_
                refine Plan.move_ptr rfl rfl ?_
                refine Plan.move_ptr rfl rfl ?_
                refine Plan.move_slice rfl rfl ?_
                refine Plan.move_int rfl rfl ?_
                obtain ⟨hc1068, hR⟩ := hR
                refine Plan.idxLVS (D := (D89.at L)) (j := i_1046) h1056 (hv1058.app [_, _, _, _, _, _, _, _, _]) FNetExact.sl83 rfl rfl rfl hc1068 ?_
                refine Plan.loadLV (D := (D89.at L)) (X := script3) (j := i_1046) (sz := 5) h1056 ((0 : Int), (0 : Int), (0 : Int), (0 : Int), ([] : List Byte)) (hv1058.app [_, _, _, _, _, _, _, _, _]) rfl rfl hc1068 rfl FNetExact.agg89 fun b1069 r1069 hs1069 hr1069 => ?_
                obtain ⟨i1069_4, hv1069_4⟩ := hs1069
                have h1070 := St.pickT (C := [_, _, _, _, _, _, _, _, _]) h1056 [5, 6, 7, 8, 1, 2, 3, 0, 4] (by decide)
                simp only [pick, List.filterMap_cons, List.filterMap_nil, List.getElem?_cons_zero, List.getElem?_cons_succ, List.cons_append, List.nil_append] at h1070
                obtain ⟨x_1072, x_1073, x_1074, x_1075, x_1076, hr1071, hR⟩ := hR
                refine Plan.call (vs := [.pointer (some ⟨b0_870, 0, none⟩), .pointer (some ⟨b0_942, 0, none⟩), AG [(1, fun _ => .int .i64 ((script3.getD i_1046 ((0 : Int), (0 : Int), (0 : Int), (0 : Int), ([] : List Byte))).1)), (1, fun _ => .int .i64 ((script3.getD i_1046 ((0 : Int), (0 : Int), (0 : Int), (0 : Int), ([] : List Byte))).2.1)), (1, fun _ => .int .i64 ((script3.getD i_1046 ((0 : Int), (0 : Int), (0 : Int), (0 : Int), ([] : List Byte))).2.2.1)), (1, fun _ => .int .i64 ((script3.getD i_1046 ((0 : Int), (0 : Int), (0 : Int), (0 : Int), ([] : List Byte))).2.2.2.1)), (1, fun _ => .slice ((b1069).1) (((script3.getD i_1046 ((0 : Int), (0 : Int), (0 : Int), (0 : Int), ([] : List Byte))).2.2.2.2).length) ((b1069).2))]]) rfl FNetExact.call42 rfl (lethelaw23_step_ok (w0 := w0) (LP := L) (by exact fun r hr => List.mem_append_right [] ((fun _ h => h) r hr)) (by exact LO.grow D60_lifts (fun r hr => hr) hm1047) (by exact ⟨_, hv1069_4⟩) hr1071 (show St B (w0.on [mapR kvI (D60.at L) [] mw0_2_871 mp1045]) _ _ from h1070)) ?_
                rintro _ w1082 ⟨C1082, aqrRow9_1077, pqrRow9_1078, nqrRow9_1079, cqrRow9_1080, FqrRow9_1081, rfl, h1082, hf1082_0⟩
                replace h1082 : St B (w0.on [mapR kvI (D60.at (C1082 ++ L)) [] mw0_2_871 x_1076]) _ _ := h1082
                try dsimp only at hf1082_0
                obtain rfl := hf1082_0.hl
                replace h1082 := St.pool (N := [_, _, _, _, _, _, _, _, _]) (R := []) h1082
                obtain ⟨L, hL1083⟩ : ∃ X, X = C1082 ++ L := ⟨_, rfl⟩
                have h1083 := St.re (N := [_, _, _, _, _, _, _, _, _]) hL1083 h1082
                simp only [List.cons_append, List.nil_append] at h1083
                replace hFr : Fr2 _ _ L L := hFr.step hL1083 hL1083
                replace hFj1054 : Fr2 _ _ L L := hFj1054.step hL1083 hL1083
                obtain ⟨ix1084, hv1084⟩ : ∃ i, LV (D89.at L) L i ascript3 script3.length cscript3 script3 := ⟨_, by rw [hL1083]; exact (LV.grow D89_lifts (fun r hr => List.mem_append_right _ hr) hv1058).app _⟩
                obtain ⟨ix1085, hv1085⟩ : ∃ i, Bx L i ((b1069).1) (((script3.getD i_1046 ((0 : Int), (0 : Int), (0 : Int), (0 : Int), ([] : List Byte))).2.2.2.2).length) ((b1069).2) ((script3.getD i_1046 ((0 : Int), (0 : Int), (0 : Int), (0 : Int), ([] : List Byte))).2.2.2.2) := ⟨_, by rw [hL1083]; exact hv1069_4.app _⟩
                obtain ⟨jx1087, hj1087⟩ : ∃ j : Nat, L[j]? = some r1069 := ⟨_, by rw [hL1083]; exact flget (i := ix1058) hr1069 _⟩
                have h1088 := St.eqM (A' := L) h1083 (i := 0) rfl hL1083
                simp only [List.set_cons_zero, List.set_cons_succ] at h1088
                have ho1089 : LO (D60.at L) [] aqrRow9_1077 pqrRow9_1078 ((x_1074).length) cqrRow9_1080 FqrRow9_1081 x_1074 := LO.grow D60_lifts (fun r hr => (by rw [hL1083]; exact hr)) hf1082_0
                refine ⟨_, rfl, .inr ⟨rfl, ?_⟩⟩
                refine Plan.not rfl rfl ?_
                refine Plan.nil ?_
                refine hK1067 _ _ ?_; clear hK1067
                by_cases hc1090 : x_1072 = true
                ·
                  replace hR := ifT hR hc1090
                  refine W.condF (congrArg Value.bool (congrArg Bool.not hc1090)) ?_
                  refine W.skip ?_
                  refine blockR_norm ?_
                  refine hK1066 _ _ ?_; clear hK1066
                  refine W.regionT [(0, true), (1, true), (2, true)] (by kernel_rfl) ?_
                  refine Plan.move_int rfl rfl ?_
                  refine Plan.addN (a := i_1046) (b := 1) rfl rfl rfl (by omega) ?_
                  refine Plan.assign_int rfl rfl ?_
                  refine Plan.nil ?_
                  have h1091 := St.pickT (C := [_, _, _, _, _, _, _, _, _]) h1088 [7, 4, 5, 6, 8, 0, 1, 2, 3] (by decide)
                  simp only [pick, List.filterMap_cons, List.filterMap_nil, List.getElem?_cons_zero, List.getElem?_cons_succ, List.cons_append, List.nil_append] at h1091
                  obtain ⟨CF1092, hx1092, hy1092⟩ := hFj1054
                  exact iterR_norm ⟨_, hR, CF1092, L, hx1092, L, rfl, x_1074.length, aqrRow9_1077, pqrRow9_1078, cqrRow9_1080, FqrRow9_1081, (EnvHas.cons rfl (EnvHas.cons rfl (EnvHas.cons rfl (EnvHas.cons rfl EnvHas.nil)))), h1091, ho1089⟩
                ·
                  replace hR := ifF hR hc1090
                  refine W.condT (congrArg Value.bool (congrArg Bool.not (Bool.eq_false_iff.2 hc1090))) ?_
                  refine W.seq_k fun K1093 hK1093 => ?_
                  refine W.regionT [(0, true)] (by kernel_rfl) ?_
                  refine Plan.assign_bool rfl rfl ?_
                  refine Plan.nil ?_
                  refine hK1093 _ _ ?_; clear hK1093
                  refine W.ret (blockR_ret (thenR_ret (iterR_ret (blockR_ret (thenR_ret (thenR_ret (finR_ret ?_)))))))
                  have h1094 := St.pickT (C := [_, _, _, _, _, _, _, _, _]) h1088 [] (by decide)
                  simp only [pick, List.filterMap_cons, List.filterMap_nil, List.getElem?_cons_zero, List.getElem?_cons_succ, List.cons_append, List.nil_append] at h1094
                  have h1095 : St B w0 _ _ := St.mpick (N := [mapR kvI (D60.at L) [] mw0_2_871 x_1076]) (N' := []) h1094 [] (by decide) rfl
                  replace hR := hR.2
                  subst r
                  refine RetOk.mk (.tmp_bool rfl .nil) ?_
                  obtain ⟨CF, hx1, hx2⟩ := hFr
                  subst hx1
                  have hdr := St.dropC (N := []) h1095
                  exact ⟨rfl, hdr⟩
              ·
                replace hR := ifF hR hc1065
                refine W.condF (congrArg Value.bool (decide_eq_false hc1065)) ?_
                refine W.exit (thenR_exit (iterR_exit (blockR_here ?_)))
                obtain ⟨CF1096, hx1096, hy1096⟩ := hFj1054
                exact ⟨mp1045, m1047, m1048, m1049, (hx1054 _ hR).symm, CF1096, L, hx1096, L, rfl, m1047.length, am1047, pm1047, cm1047, Fm1047, (EnvHas.cons rfl (EnvHas.cons rfl EnvHas.nil)), h1056, hm1047⟩
            ·
              replace hR := ifF hR hc1064
              refine Plan.cmpV (a := (((i_1046 : Nat) : Int) : Int)) (b := (((script3.length : Nat) : Int) : Int)) (p := i_1046 < script3.length) (v := false) rfl rfl rfl rfl icmp_ltN (decide_eq_false hc1064) ?_
              refine Plan.move_bool rfl rfl ?_
              refine Plan.passed rfl ?_
              refine Plan.passed rfl ?_
              refine Plan.pickFb rfl rfl rfl ?_
              refine Plan.nil ?_
              refine hK1063 _ _ ?_; clear hK1063
              refine W.condF rfl ?_
              refine W.exit (thenR_exit (iterR_exit (blockR_here ?_)))
              obtain ⟨CF1097, hx1097, hy1097⟩ := hFj1054
              exact ⟨mp1045, m1047, m1048, m1049, (hx1054 _ hR).symm, CF1097, L, hx1097, L, rfl, m1047.length, am1047, pm1047, cm1047, Fm1047, (EnvHas.cons rfl (EnvHas.cons rfl EnvHas.nil)), h1056, hm1047⟩
          ·
            rintro ev1098 wl1098 ⟨y_mp1050, y_m1051, y_m1052, y_m1053, hy1098, CG1098, LG1098, hlg1098, L, hLe1098, n_m1051, am1051, pm1051, cm1051, Fm1051, he1098, h1098, hm1051⟩
            obtain ⟨ev1098, rfl⟩ := he1098.open
            replace hR := hR01054 y_mp1050 y_m1051 y_m1052 y_m1053 hy1098
            obtain ⟨mp1050, e_mp1050⟩ : ∃ z, z = y_mp1050 := ⟨_, rfl⟩; subst e_mp1050
            obtain ⟨m1051, e_m1051⟩ : ∃ z, z = y_m1051 := ⟨_, rfl⟩; subst e_m1051
            obtain ⟨m1052, e_m1052⟩ : ∃ z, z = y_m1052 := ⟨_, rfl⟩; subst e_m1052
            obtain ⟨m1053, e_m1053⟩ : ∃ z, z = y_m1053 := ⟨_, rfl⟩; subst e_m1053
            obtain rfl : List.length (α := (Int × Int × Int × (List Byte))) m1051 = n_m1051 := hm1051.hl
            have hL1098 := hLe1098.trans hlg1098
            replace hFr : Fr2 _ _ L L := hFr.step hL1098 hL1098
            replace hFj1054 : Fr2 _ _ L L := hFj1054.step hL1098 hL1098
            refine hK971 _ _ ?_; clear hK971
            refine W.seq_k fun K1100 hK1100 => ?_
            refine W.regionT [(0, true), (1, false), (2, true), (3, false), (4, false), (5, true), (6, true), (7, false), (8, true), (9, false), (10, true), (11, true), (12, true)] (by kernel_rfl) ?_
            refine Plan.move_ptr rfl rfl ?_
            have h1101 := St.pickT (C := [_, _, _, _, _, _, _, _, _]) h1098 [5, 6, 7, 8, 0, 1, 2, 3, 4] (by decide)
            simp only [pick, List.filterMap_cons, List.filterMap_nil, List.getElem?_cons_zero, List.getElem?_cons_succ, List.cons_append, List.nil_append] at h1101
            obtain ⟨x_1103, hr1102, hR⟩ := hR
            refine Plan.call (vs := [.pointer (some ⟨b0_870, 0, none⟩)]) rfl FNetExact.call32 rfl (net_Net_Flights_ok (w0 := w0) (LP := L) (by exact fun r hr => List.mem_append_right [_, _, _, _, _] ((fun _ h => h) r hr)) hr1102 (show St B (w0.on [mapR kvI (D60.at L) [] mw0_2_871 mp1050]) _ _ from h1101)) ?_
            rintro _ w1109 ⟨C1109, ay0_1104, py0_1105, ny0_1106, cy0_1107, Fy0_1108, rfl, h1109, hf1109_0⟩
            replace h1109 : St B (w0.on [mapR kvI (D60.at (C1109 ++ L)) [] mw0_2_871 mp1050]) _ _ := h1109
            replace h1109 := St.pool (N := [_, _, _, _, _]) (R := [_, _, _, _, _]) h1109
            obtain ⟨L, hL1110⟩ : ∃ X, X = C1109 ++ L := ⟨_, rfl⟩
            have h1110 := St.re (N := [_, _, _, _, _, _, _, _, _, _]) hL1110 h1109
            simp only [List.cons_append, List.nil_append] at h1110
            replace hFr : Fr2 _ _ L L := hFr.step hL1110 hL1110
            replace hFj1054 : Fr2 _ _ L L := hFj1054.step hL1110 hL1110
            have ho1111 : LO (D60.at L) [] am1051 pm1051 ((m1051).length) cm1051 Fm1051 m1051 := by rw [hL1110]; exact LO.grow D60_lifts (fun r hr => List.mem_append_right _ hr) hm1051
            have h1113 := St.eqM (A' := L) h1110 (i := 0) rfl hL1110
            simp only [List.set_cons_zero, List.set_cons_succ] at h1113
            obtain rfl := hf1109_0.hl
            have hd1109_0 : LO (D60.at L) [] ay0_1104 py0_1105 (x_1103).length cy0_1107 Fy0_1108 x_1103 := LO.grow D60_lifts (fun r hr => (by rw [hL1110]; exact hr)) hf1109_0
            refine ⟨_, rfl, .inl ⟨PIn.keep PIn.nil h1113, ?_⟩⟩
            refine Plan.move_ptr rfl rfl ?_
            have h1114 := St.pickT (C := [_, _, _, _, _, _, _, _, _, _]) h1113 [6, 7, 8, 5, 9, 0, 1, 2, 3, 4] (by decide)
            simp only [pick, List.filterMap_cons, List.filterMap_nil, List.getElem?_cons_zero, List.getElem?_cons_succ, List.cons_append, List.nil_append] at h1114
            obtain ⟨x_1116, x_1117, hr1115, hR⟩ := hR
            refine Plan.call (vs := [.pointer (some ⟨b0_942, 0, none⟩)]) rfl FNetExact.call44 rfl (letheref23_Net_Flights_ok (LP := L) (by exact fun r hr => List.mem_append_right [_, _, _, _, _] ((fun _ h => h) r hr)) (by exact LO.grow D60_lifts (fun r hr => hr) ho1111) hr1115 h1114) ?_
            rintro _ w1128 ⟨C1128, ay0_1118, py0_1119, ny0_1120, cy0_1121, Fy0_1122, aqnRow4_1123, pqnRow4_1124, nqnRow4_1125, cqnRow4_1126, FqnRow4_1127, rfl, h1128, hf1128_0, hf1128_1⟩
            try dsimp only at hf1128_0 hf1128_1
            obtain rfl := hf1128_1.hl
            replace h1128 := St.pool (N := [_, _, _, _, _, _]) (R := [_, _, _, _, _]) h1128
            obtain ⟨L, hL1129⟩ : ∃ X, X = C1128 ++ L := ⟨_, rfl⟩
            have h1129 := St.re (N := [_, _, _, _, _, _, _, _, _, _, _]) hL1129 h1128
            simp only [List.cons_append, List.nil_append] at h1129
            replace hFr : Fr2 _ _ L L := hFr.step hL1129 hL1129
            replace hFj1054 : Fr2 _ _ L L := hFj1054.step hL1129 hL1129
            have ho1130 : LO (D60.at L) [] ay0_1104 py0_1105 ((x_1103).length) cy0_1107 Fy0_1108 x_1103 := by rw [hL1129]; exact LO.grow D60_lifts (fun r hr => List.mem_append_right _ hr) hd1109_0
            have h1131 := St.liftM (LP' := L) h1129 (i := 0) rfl D60_lifts (fun r hr => by rw [hL1129]; exact List.mem_append_right _ hr)
            simp only [List.set_cons_zero, List.set_cons_succ] at h1131
            have ho1132 : LO (D60.at L) [] aqnRow4_1123 pqnRow4_1124 ((x_1117).length) cqnRow4_1126 FqnRow4_1127 x_1117 := LO.grow D60_lifts (fun r hr => (by rw [hL1129]; exact hr)) hf1128_1
            obtain rfl := hf1128_0.hl
            have hd1128_0 : LO (D60.at L) [] ay0_1118 py0_1119 (x_1116).length cy0_1121 Fy0_1122 x_1116 := LO.grow D60_lifts (fun r hr => (by rw [hL1129]; exact hr)) hf1128_0
            refine ⟨_, rfl, .inl ⟨PIn.keep PIn.nil h1131, ?_⟩⟩
            obtain ⟨x_1134, hr1133, hR⟩ := hR
            refine Plan.call (vs := [.slice ay0_1104 x_1103.length cy0_1107, .slice ay0_1118 x_1116.length cy0_1121]) rfl FNetExact.call43 rfl (lethelaw23_sameAll_ok (by exact (LV.grow D60_lifts (fun r hr => List.mem_append_right [_, _, _, _, _, _, _, _, _, _, _] ((fun _ h => h) r hr)) (LO.lvf EL.at_flat ho1130 6 rfl))) (by exact (LV.grow D60_lifts (fun r hr => List.mem_append_right [_, _, _, _, _, _, _, _, _, _, _] ((fun _ h => h) r hr)) (LO.lvf EL.at_flat hd1128_0 0 rfl))) hr1133 h1131) ?_
            rintro _ w1135 ⟨rfl, h1135⟩
            refine ⟨_, rfl, .inl ⟨PIn.keep PIn.nil h1135, ?_⟩⟩
            by_cases hc1136 : x_1134 = true
            ·
              replace hR := ifT hR hc1136
              obtain rfl : x_1134 = true := hc1136
              refine Plan.move_bool rfl rfl ?_
              refine Plan.move_ptr rfl rfl ?_
              have h1137 := St.pickT (C := [_, _, _, _, _, _, _, _, _, _, _]) h1135 [7, 8, 9, 10, 0, 1, 2, 3, 4, 5, 6] (by decide)
              simp only [pick, List.filterMap_cons, List.filterMap_nil, List.getElem?_cons_zero, List.getElem?_cons_succ, List.cons_append, List.nil_append] at h1137
              obtain ⟨x_1139, hr1138, hR⟩ := hR
              refine Plan.call (vs := [.pointer (some ⟨b0_870, 0, none⟩)]) rfl FNetExact.call45 rfl (net_Net_Next_ok (w0 := w0) (LP := L) (by exact fun r hr => List.mem_append_right [_, _, _, _, _, _, _] ((fun _ h => h) r hr)) hr1138 (show St B (w0.on [mapR kvI (D60.at L) [] mw0_2_871 mp1050]) _ _ from h1137)) ?_
              rintro _ w1140 ⟨C1140, rfl, h1140⟩
              replace h1140 : St B (w0.on [mapR kvI (D60.at (C1140 ++ L)) [] mw0_2_871 mp1050]) _ _ := h1140
              replace h1140 := St.pool (N := [_, _, _, _]) (R := [_, _, _, _, _, _, _]) h1140
              obtain ⟨L, hL1141⟩ : ∃ X, X = C1140 ++ L := ⟨_, rfl⟩
              have h1141 := St.re (N := [_, _, _, _, _, _, _, _, _, _, _]) hL1141 h1140
              simp only [List.cons_append, List.nil_append] at h1141
              replace hFr : Fr2 _ _ L L := hFr.step hL1141 hL1141
              replace hFj1054 : Fr2 _ _ L L := hFj1054.step hL1141 hL1141
              have ho1142 : LO (D60.at L) [] ay0_1118 py0_1119 ((x_1116).length) cy0_1121 Fy0_1122 x_1116 := by rw [hL1141]; exact LO.grow D60_lifts (fun r hr => List.mem_append_right _ hr) hd1128_0
              have ho1143 : LO (D60.at L) [] aqnRow4_1123 pqnRow4_1124 ((x_1117).length) cqnRow4_1126 FqnRow4_1127 x_1117 := by rw [hL1141]; exact LO.grow D60_lifts (fun r hr => List.mem_append_right _ hr) ho1132
              have ho1144 : LO (D60.at L) [] ay0_1104 py0_1105 ((x_1103).length) cy0_1107 Fy0_1108 x_1103 := by rw [hL1141]; exact LO.grow D60_lifts (fun r hr => List.mem_append_right _ hr) ho1130
              have h1146 := St.eqM (A' := L) h1141 (i := 0) rfl hL1141
              simp only [List.set_cons_zero, List.set_cons_succ] at h1146
              refine ⟨_, rfl, .inl ⟨PIn.keep PIn.nil h1146, ?_⟩⟩
              refine Plan.move_ptr rfl rfl ?_
              have h1147 := St.pickT (C := [_, _, _, _, _, _, _, _, _, _, _]) h1146 [5, 6, 7, 9, 0, 1, 2, 3, 4, 8, 10] (by decide)
              simp only [pick, List.filterMap_cons, List.filterMap_nil, List.getElem?_cons_zero, List.getElem?_cons_succ, List.cons_append, List.nil_append] at h1147
              obtain ⟨x_1149, hr1148, hR⟩ := hR
              refine Plan.call (vs := [.pointer (some ⟨b0_942, 0, none⟩)]) rfl FNetExact.call46 rfl (letheref23_Net_Next_ok (by exact (LV.grow D60_lifts (fun r hr => List.mem_append_right [_, _, _, _, _, _, _] ((fun _ h => h) r hr)) (LO.lvf EL.at_flat ho1143 5 rfl))) hr1148 h1147) ?_
              rintro _ w1150 ⟨rfl, h1150⟩
              refine ⟨_, rfl, .inl ⟨PIn.keep PIn.nil h1150, ?_⟩⟩
              refine Plan.cmpP (a := (x_1139 : Int)) (b := (x_1149 : Int)) (p := x_1139 = x_1149) rfl rfl rfl rfl icmp_eq ?_
              refine Plan.pickTb rfl rfl rfl ?_
              refine Plan.assign_bool rfl rfl ?_
              refine Plan.nil ?_
              refine hK1100 _ _ ?_; clear hK1100
              refine W.ret (finR_ret ?_)
              have h1151 := St.pickT (C := [_, _, _, _, _, _, _, _, _, _, _]) h1150 [] (by decide)
              simp only [pick, List.filterMap_cons, List.filterMap_nil, List.getElem?_cons_zero, List.getElem?_cons_succ, List.cons_append, List.nil_append] at h1151
              have h1152 : St B w0 _ _ := St.mpick (N := [mapR kvI (D60.at L) [] mw0_2_871 mp1050]) (N' := []) h1151 [] (by decide) rfl
              subst r
              refine RetOk.mk (.tmp_bool rfl .nil) ?_
              obtain ⟨CF, hx1, hx2⟩ := hFr
              subst hx1
              have hdr := St.dropC (N := []) h1152
              exact ⟨rfl, hdr⟩
            ·
              replace hR := ifF hR hc1136
              obtain rfl : x_1134 = false := Bool.eq_false_iff.2 hc1136
              refine Plan.move_bool rfl rfl ?_
              refine Plan.passed rfl ?_
              refine Plan.passed rfl ?_
              refine Plan.passed rfl ?_
              refine Plan.passed rfl ?_
              refine Plan.passed rfl ?_
              refine Plan.pickFb rfl rfl rfl ?_
              refine Plan.assign_bool rfl rfl ?_
              refine Plan.nil ?_
              refine hK1100 _ _ ?_; clear hK1100
              refine W.ret (finR_ret ?_)
              have h1153 := St.pickT (C := [_, _, _, _, _, _, _, _, _, _, _]) h1135 [] (by decide)
              simp only [pick, List.filterMap_cons, List.filterMap_nil, List.getElem?_cons_zero, List.getElem?_cons_succ, List.cons_append, List.nil_append] at h1153
              have h1154 : St B w0 _ _ := St.mpick (N := [mapR kvI (D60.at L) [] mw0_2_871 mp1050]) (N' := []) h1153 [] (by decide) rfl
              subst r
              refine RetOk.mk (.tmp_bool rfl .nil) ?_
              obtain ⟨CF, hx1, hx2⟩ := hFr
              subst hx1
              have hdr := St.dropC (N := []) h1154
              exact ⟨rfl, hdr⟩

end Go.Proofs.Ytbkgblhmlenocaa
