/-
  WALKS of the package's functions, printed by this session's own program (auto.py).
-/
import Derived.Test.YtbkgblhmlenocaaProg
import Derived.Test.YtbkgblhmlenocaaEd
import Derived.Test.YtbkgblhmlenocaaRNetFull
import Derived.Test.YtbkgblhmlenocaaEls
import Derived.Test.YtbkgblhmlenocaaWNet
namespace Go.Proofs.Ytbkgblhmlenocaa
set_option linter.unusedSimpArgs false
set_option linter.unusedVariables false
set_option linter.unusedSectionVars false
open Go Go.LW
theorem FNetFull.call29 : callB Try.prog 29 = true := by kernel_rfl
theorem FNetFull.ptr51 : ptrB Try.prog 51 = true := by kernel_rfl
theorem FNetFull.u5 : Try.prog.underlying 5 = some (.int .u8) := by kernel_rfl
theorem FNetFull.some3 : (Try.prog.underlying 3).isSome = true := by kernel_rfl
theorem FNetFull.zv5 : (Try.prog.info? 5).bind (·.zero) = some (VU .u8 0#8) := by kernel_rfl
theorem FNetFull.slu23 : Try.prog.underlying 23 = some (.slice 5) := by kernel_rfl
theorem FNetFull.sz5 : szT Try.prog 5 1 = true := by kernel_rfl
theorem FNetFull.call30 : callB Try.prog 30 = true := by kernel_rfl
theorem FNetFull.call31 : callB Try.prog 31 = true := by kernel_rfl
theorem FNetFull.call45 : callB Try.prog 45 = true := by kernel_rfl
theorem FNetFull.call32 : callB Try.prog 32 = true := by kernel_rfl
theorem FNetFull.isl57 : ∃ el, Try.prog.underlying 57 = some (.slice el) := ⟨60, by kernel_rfl⟩
theorem FNetFull.call48 : callB Try.prog 48 = true := by kernel_rfl

set_option maxRecDepth 8000 in
set_option maxHeartbeats 1000000 in
theorem lethelaw23_NetFull_ok {B : Nat} {w0 : Base} {w : World} {L : List Rg} {most1 : Int} {k2 : Int} {r : Bool} (hR : lethelaw23_NetFull most1 k2 r) (HST : St B w0 (L) w) :
    Calls Try.prog 11 #[.int .i64 most1, .int .i64 k2] w fun e w' => e = .returned (.bool r) ∧ St B w0 (L) w' := by
  refine W.enter 149 Try.func11 rfl rfl rfl ?_
  unfold lethelaw23_NetFull at hR
  have hFr : Fr2 L L L L := Fr2.refl _ _
  refine W.seq_k fun K3 hK3 => ?_
  refine W.regionT [(0, true)] (by kernel_rfl) ?_
  refine Plan.assign_bool rfl rfl ?_
  refine Plan.nil ?_
  refine hK3 _ _ ?_; clear hK3
  refine W.seq_k fun K4 hK4 => ?_
  refine W.regionT [(0, true), (1, true), (2, true), (3, true), (4, true), (5, true), (6, true)] (by kernel_rfl) ?_
  refine Plan.move_int rfl rfl ?_
  refine Plan.move_int rfl rfl ?_
  refine Plan.addW (a := most1) (b := 1) rfl rfl rfl ?_
  refine Plan.negW (a := (w64 (most1 + 1))) rfl rfl ?_
  refine Plan.maxI (a := most1) (b := (w64 (-(w64 (most1 + 1))))) rfl rfl rfl ?_
  have hb5 := tmod_bd (max most1 (w64 (-(w64 (most1 + 1))))) (c := 40) (by decide)
  refine Plan.remI (a := (max most1 (w64 (-(w64 (most1 + 1)))))) (b := 40) rfl rfl rfl (by omega) ?_
  refine Plan.assign_int rfl rfl ?_
  refine Plan.nil ?_
  refine hK4 _ _ ?_; clear hK4
  refine W.seq_k fun K6 hK6 => ?_
  refine W.regionT [(0, true), (1, false), (2, true), (3, true), (4, true), (5, true), (6, true)] (by kernel_rfl) ?_
  refine Plan.move_int rfl rfl ?_
  rcases hR with ⟨x_8, hr7, hR⟩ | ⟨x_9, x_10, x_11, x_12, x_13, hr7, hR⟩
  ·
    refine Plan.call (vs := [VN 2, .int .i64 ((max most1 (w64 (-(w64 (most1 + 1))))).tmod 40)]) rfl FNetFull.call29 rfl (net_New_ok (LP := L) (by exact fun r hr => List.mem_append_right [] ((fun _ h => h) r hr)) hr7 HST) ?_
    rintro _ w14 ⟨C14, rfl, h14⟩
    replace h14 := St.pool (N := []) (R := []) h14
    obtain ⟨L, hL15⟩ : ∃ X, X = C14 ++ L := ⟨_, rfl⟩
    have h15 := St.re (N := []) hL15 h14
    replace hFr : Fr2 _ _ L L := hFr.step hL15 hL15
    refine ⟨_, rfl, .inl ⟨PIn.keep PIn.nil h15, ?_⟩⟩
    refine Plan.move_tuple rfl rfl ?_
    refine Plan.extract_ptr rfl rfl rfl ?_
    refine Plan.extract_int rfl rfl rfl ?_
    refine Plan.assign_ptr rfl rfl ?_
    refine Plan.assign_int rfl rfl ?_
    refine Plan.nil ?_
    refine hK6 _ _ ?_; clear hK6
    refine W.seq_k fun K16 hK16 => ?_
    refine W.seq_k fun K21 hK21 => ?_
    refine W.regionT [(0, true), (1, true), (2, true), (3, true), (4, true), (5, true)] (by kernel_rfl) ?_
    refine Plan.move_int rfl rfl ?_
    by_cases hc22 : x_8 ≠ 0
    ·
      replace hR := ifT hR hc22
      refine Plan.cmpV (a := (((x_8 : Nat) : Int) : Int)) (b := (0 : Int)) (p := x_8 ≠ 0) (v := true) rfl rfl rfl rfl icmp_neN (decide_eq_true hc22) ?_
      refine Plan.move_bool rfl rfl ?_
      refine Plan.passed rfl ?_
      refine Plan.passed rfl ?_
      refine Plan.pickTb rfl rfl rfl ?_
      refine Plan.nil ?_
      refine hK21 _ _ ?_; clear hK21
      refine W.condT rfl ?_
      refine W.seq_k fun K23 hK23 => ?_
      refine W.regionT [(0, true)] (by kernel_rfl) ?_
      refine Plan.assign_bool rfl rfl ?_
      refine Plan.nil ?_
      refine hK23 _ _ ?_; clear hK23
      refine W.ret (thenR_ret (finR_ret ?_))
      subst r
      refine RetOk.mk (.tmp_bool rfl .nil) ?_
      obtain ⟨CF, hx1, hx2⟩ := hFr
      subst hx1
      have hdr := St.dropC (N := []) h15
      exact ⟨rfl, hdr⟩
    ·
      replace hR := ifF hR hc22
      refine Plan.cmpV (a := (((x_8 : Nat) : Int) : Int)) (b := (0 : Int)) (p := x_8 ≠ 0) (v := false) rfl rfl rfl rfl icmp_neN (decide_eq_false hc22) ?_
      refine Plan.move_bool rfl rfl ?_
      refine Plan.move_ptr rfl rfl ?_
      refine Plan.eqNil (b := true) FNetFull.ptr51 rfl rfl rfl rfl ?_
      refine Plan.pickFb rfl rfl rfl ?_
      refine Plan.nil ?_
      refine hK21 _ _ ?_; clear hK21
      refine W.condT rfl ?_
      refine W.seq_k fun K24 hK24 => ?_
      refine W.regionT [(0, true)] (by kernel_rfl) ?_
      refine Plan.assign_bool rfl rfl ?_
      refine Plan.nil ?_
      refine hK24 _ _ ?_; clear hK24
      refine W.ret (thenR_ret (finR_ret ?_))
      subst r
      refine RetOk.mk (.tmp_bool rfl .nil) ?_
      obtain ⟨CF, hx1, hx2⟩ := hFr
      subst hx1
      have hdr := St.dropC (N := []) h15
      exact ⟨rfl, hdr⟩
  ·
    refine Plan.call (vs := [VN 2, .int .i64 ((max most1 (w64 (-(w64 (most1 + 1))))).tmod 40)]) rfl FNetFull.call29 rfl (net_New_ok (w0 := w0) (LP := L) (by exact fun r hr => List.mem_append_right [] ((fun _ h => h) r hr)) hr7 HST) ?_
    rintro _ w27 ⟨C27, b0_25, mw0_2_26, rfl, h27⟩
    replace h27 : St B (w0.on [mapR kvI (D60.at (C27 ++ L)) [] mw0_2_26 x_11]) _ _ := h27
    replace h27 := St.pool (N := [_, _, _, _]) (R := []) h27
    obtain ⟨L, hL28⟩ : ∃ X, X = C27 ++ L := ⟨_, rfl⟩
    have h28 := St.re (N := [_, _, _, _]) hL28 h27
    simp only [List.cons_append, List.nil_append] at h28
    replace hFr : Fr2 _ _ L L := hFr.step hL28 hL28
    have h30 := St.eqM (A' := L) h28 (i := 0) rfl hL28
    simp only [List.set_cons_zero, List.set_cons_succ] at h30
    refine ⟨_, rfl, .inl ⟨PIn.keep PIn.nil h30, ?_⟩⟩
    refine Plan.move_tuple rfl rfl ?_
    refine Plan.extract_ptr rfl rfl rfl ?_
    refine Plan.extract_int rfl rfl rfl ?_
    refine Plan.assign_ptr rfl rfl ?_
    refine Plan.assign_int rfl rfl ?_
    refine Plan.nil ?_
    refine hK6 _ _ ?_; clear hK6
    refine W.seq_k fun K31 hK31 => ?_
    refine W.seq_k fun K35 hK35 => ?_
    refine W.regionT [(0, true), (1, true), (2, true), (3, true), (4, true), (5, true)] (by kernel_rfl) ?_
    refine Plan.move_int rfl rfl ?_
    by_cases hc36 : x_13 ≠ 0
    ·
      replace hR := ifT hR hc36
      refine Plan.cmpV (a := (((x_13 : Nat) : Int) : Int)) (b := (0 : Int)) (p := x_13 ≠ 0) (v := true) rfl rfl rfl rfl icmp_neN (decide_eq_true hc36) ?_
      refine Plan.move_bool rfl rfl ?_
      refine Plan.passed rfl ?_
      refine Plan.passed rfl ?_
      refine Plan.pickTb rfl rfl rfl ?_
      refine Plan.nil ?_
      refine hK35 _ _ ?_; clear hK35
      refine W.condT rfl ?_
      refine W.seq_k fun K37 hK37 => ?_
      refine W.regionT [(0, true)] (by kernel_rfl) ?_
      refine Plan.assign_bool rfl rfl ?_
      refine Plan.nil ?_
      refine hK37 _ _ ?_; clear hK37
      refine W.ret (thenR_ret (finR_ret ?_))
      have h38 := St.pickT (C := [_, _, _, _]) h30 [] (by decide)
      simp only [pick, List.filterMap_cons, List.filterMap_nil, List.getElem?_cons_zero, List.getElem?_cons_succ, List.cons_append, List.nil_append] at h38
      have h39 : St B w0 _ _ := St.mpick (N := [mapR kvI (D60.at L) [] mw0_2_26 x_11]) (N' := []) h38 [] (by decide) rfl
      subst r
      refine RetOk.mk (.tmp_bool rfl .nil) ?_
      obtain ⟨CF, hx1, hx2⟩ := hFr
      subst hx1
      have hdr := St.dropC (N := []) h39
      exact ⟨rfl, hdr⟩
    ·
      replace hR := ifF hR hc36
      refine Plan.cmpV (a := (((x_13 : Nat) : Int) : Int)) (b := (0 : Int)) (p := x_13 ≠ 0) (v := false) rfl rfl rfl rfl icmp_neN (decide_eq_false hc36) ?_
      refine Plan.move_bool rfl rfl ?_
      refine Plan.move_ptr rfl rfl ?_
      refine Plan.eqNil (b := false) FNetFull.ptr51 rfl rfl rfl rfl ?_
      refine Plan.pickFb rfl rfl rfl ?_
      refine Plan.nil ?_
      refine hK35 _ _ ?_; clear hK35
      refine W.condF rfl ?_
      refine W.skip ?_
      refine hK31 _ _ ?_; clear hK31
      refine W.seq_k fun K40 hK40 => ?_
      refine W.seq_k fun K41 hK41 => ?_
      refine W.regionT [(0, true)] (by kernel_rfl) ?_
      refine Plan.assign_int rfl rfl ?_
      refine Plan.nil ?_
      refine hK41 _ _ ?_; clear hK41
      have hFj178 : Fr2 L L L L := Fr2.refl _ _
      obtain ⟨x178, hI178, hR0178⟩ := hR
      refine W.cutN (fun e w => ∃ y_mp176 : List (Int × (Int × Int × Int × (List Byte))), ∃ y_m177 : Int, x178 = some (y_mp176, y_m177) ∧ ∃ CG LG : List Rg, LG = CG ++ L ∧ ∃ L : List Rg, L = LG ∧ EnvHas e [(0, .int .i64 ((max most1 (w64 (-(w64 (most1 + 1))))).tmod 40)), (1, .int .i64 k2), (5, .pointer (some ⟨b0_25, 0, none⟩))] ∧ St B (w0.on [mapR kvI (D60.at L) [] mw0_2_26 y_mp176]) (⟨some b0_25, 0, 1, fun _ => .int .i64 x_9, true⟩ :: ⟨some b0_25, 1, 1, fun _ => .int .i64 x_10, true⟩ :: ⟨some b0_25, 2, 1, fun _ => .map (some mw0_2_26), true⟩ :: ⟨some b0_25, 3, 1, fun _ => .int .i64 y_m177, true⟩ :: L) w) ?_ ?_
      ·
        refine W.block ?_
        refine W.iter hI178 (fun (s178 : ((List (Int × (Int × Int × Int × (List Byte)))) × Nat × Int)) e w => ∃ CG LG : List Rg, LG = CG ++ L ∧ ∃ L : List Rg, L = LG ∧ EnvHas e [(0, .int .i64 ((max most1 (w64 (-(w64 (most1 + 1))))).tmod 40)), (1, .int .i64 k2), (5, .pointer (some ⟨b0_25, 0, none⟩)), (7, VN s178.2.1)] ∧ St B (w0.on [mapR kvI (D60.at L) [] mw0_2_26 s178.1]) (⟨some b0_25, 0, 1, fun _ => .int .i64 x_9, true⟩ :: ⟨some b0_25, 1, 1, fun _ => .int .i64 x_10, true⟩ :: ⟨some b0_25, 2, 1, fun _ => .map (some mw0_2_26), true⟩ :: ⟨some b0_25, 3, 1, fun _ => .int .i64 s178.2.2, true⟩ :: L) w) ⟨[], L, rfl, L, rfl, (EnvHas.cons rfl (EnvHas.cons rfl (EnvHas.cons rfl (EnvHas.cons rfl EnvHas.nil)))), h30⟩ ?_
        rintro ⟨mp173, i_174, m175⟩ o178 hR hx178 ev179 wl179 ⟨CG179, LG179, hlg179, L, hLe179, he179, h179⟩
        obtain ⟨ev179, rfl⟩ := he179.open
        unfold lethelaw23_NetFull_l0 at hR
        have hL179 := hLe179.trans hlg179
        replace hFr : Fr2 _ _ L L := hFr.step hL179 hL179
        replace hFj178 : Fr2 _ _ L L := hFj178.step hL179 hL179
        refine W.seq_k fun K181 hK181 => ?_
        refine W.seq_k fun K182 hK182 => ?_
        refine W.regionT [(0, true), (1, true), (2, true)] (by kernel_rfl) ?_
        refine Plan.move_int rfl rfl ?_
        refine Plan.move_int rfl rfl ?_
        refine Plan.cmpP (a := (((i_174 : Nat) : Int) : Int)) (b := (((max most1 (w64 (-(w64 (most1 + 1))))).tmod 40) : Int)) (p := ((i_174 : Nat) : Int) < ((max most1 (w64 (-(w64 (most1 + 1))))).tmod 40)) rfl rfl rfl rfl icmp_lt ?_
        refine Plan.nil ?_
        refine hK182 _ _ ?_; clear hK182
        by_cases hc183 : ((i_174 : Nat) : Int) < ((max most1 (w64 (-(w64 (most1 + 1))))).tmod 40)
        ·
          replace hR := ifT hR hc183
          refine W.condT (congrArg Value.bool (decide_eq_true hc183)) ?_
          refine W.skip ?_
          refine hK181 _ _ ?_; clear hK181
          refine W.seq_k fun K184 hK184 => ?_
          refine W.block ?_
          refine W.seq_k fun K185 hK185 => ?_
          refine W.regionT [(0, true), (1, true)] (by kernel_rfl) ?_
          refine Plan.assign_int rfl rfl ?_
          refine Plan.assign_int rfl rfl ?_
          refine Plan.nil ?_
          refine hK185 _ _ ?_; clear hK185
          refine W.seq_k fun K186 hK186 => ?_
          have hFj225 : Fr2 L L L L := Fr2.refl _ _
          obtain ⟨mp221, m222, e_223, m224, hX225, hR0225⟩ := hR
          refine W.cutN (fun e w => ∃ y_mp221 : List (Int × (Int × Int × Int × (List Byte))), ∃ y_m222 : Int, ∃ y_e_223 : Nat, ∃ y_m224 : Int, (mp221 = y_mp221 ∧ m222 = y_m222 ∧ e_223 = y_e_223 ∧ m224 = y_m224) ∧ ∃ CG LG : List Rg, LG = CG ++ L ∧ ∃ L : List Rg, L = LG ∧ EnvHas e [(0, .int .i64 ((max most1 (w64 (-(w64 (most1 + 1))))).tmod 40)), (1, .int .i64 k2), (5, .pointer (some ⟨b0_25, 0, none⟩)), (7, VN i_174), (8, .int .i64 y_m222), (9, VN y_e_223)] ∧ St B (w0.on [mapR kvI (D60.at L) [] mw0_2_26 y_mp221]) (⟨some b0_25, 0, 1, fun _ => .int .i64 x_9, true⟩ :: ⟨some b0_25, 1, 1, fun _ => .int .i64 x_10, true⟩ :: ⟨some b0_25, 2, 1, fun _ => .map (some mw0_2_26), true⟩ :: ⟨some b0_25, 3, 1, fun _ => .int .i64 y_m224, true⟩ :: L) w) ?_ ?_
          ·
            replace hR := hX225
            refine W.seq_k fun K226 hK226 => ?_
            refine W.regionT [(0, true), (1, true), (2, true), (3, true), (4, true), (5, true), (6, true)] (by kernel_rfl) ?_
            refine Plan.move_int rfl rfl ?_
            by_cases hc227 : 0 < i_174
            ·
              replace hR := ifT hR hc227
              refine Plan.cmpV (a := (((i_174 : Nat) : Int) : Int)) (b := (0 : Int)) (p := 0 < i_174) (v := true) rfl rfl rfl rfl icmp_gtN (decide_eq_true hc227) ?_
              refine Plan.move_bool rfl rfl ?_
              refine Plan.move_int rfl rfl ?_
              refine Plan.remN (a := i_174) (b := 2) rfl rfl rfl (by omega) ?_
              refine Plan.cmpP (a := ((((i_174 % 2) : Nat) : Int) : Int)) (b := (1 : Int)) (p := (i_174 % 2) = 1) rfl rfl rfl rfl icmp_eqN ?_
              refine Plan.pickTb rfl rfl rfl ?_
              refine Plan.nil ?_
              refine hK226 _ _ ?_; clear hK226
              by_cases hc228 : (i_174 % 2) = 1
              ·
                replace hR := ifT hR hc228
                refine W.condT (congrArg Value.bool (decide_eq_true hc228)) ?_
                refine W.regionT [(0, true), (1, true), (2, true), (3, false), (4, true), (5, true), (6, true), (7, true), (8, true)] (by kernel_rfl) ?_
                refine Plan.move_ptr rfl rfl ?_
                refine Plan.move_int rfl rfl ?_
                refine Plan.subN (a := i_174) (b := 1) rfl rfl rfl (by omega) ?_
                obtain ⟨x_230, x_231, x_232, x_233, hr229, hR⟩ := hR
                refine Plan.call (vs := [.pointer (some ⟨b0_25, 0, none⟩), VN (i_174 - 1)]) rfl FNetFull.call31 rfl (net_Net_Copy_ok (w0 := w0) (LP := L) (by exact fun r hr => List.mem_append_right [] ((fun _ h => h) r hr)) hr229 (show St B (w0.on [mapR kvI (D60.at L) [] mw0_2_26 mp173]) _ _ from h179)) ?_
                rintro _ w234 ⟨C234, rfl, h234⟩
                replace h234 : St B (w0.on [mapR kvI (D60.at (C234 ++ L)) [] mw0_2_26 x_233]) _ _ := h234
                replace h234 := St.pool (N := [_, _, _, _]) (R := []) h234
                obtain ⟨L, hL235⟩ : ∃ X, X = C234 ++ L := ⟨_, rfl⟩
                have h235 := St.re (N := [_, _, _, _]) hL235 h234
                simp only [List.cons_append, List.nil_append] at h235
                replace hFr : Fr2 _ _ L L := hFr.step hL235 hL235
                replace hFj178 : Fr2 _ _ L L := hFj178.step hL235 hL235
                replace hFj225 : Fr2 _ _ L L := hFj225.step hL235 hL235
                have h237 := St.eqM (A' := L) h235 (i := 0) rfl hL235
                simp only [List.set_cons_zero, List.set_cons_succ] at h237
                refine ⟨_, rfl, .inl ⟨PIn.keep PIn.nil h237, ?_⟩⟩
                refine Plan.move_tuple rfl rfl ?_
                refine Plan.extract_int rfl rfl rfl ?_
                refine Plan.extract_int rfl rfl rfl ?_
                refine Plan.assign_int rfl rfl ?_
                refine Plan.assign_int rfl rfl ?_
                refine Plan.nil ?_
                obtain ⟨CF238, hx238, hy238⟩ := hFj225
                exact ⟨x_233, x_230, x_231, x_232, hR, CF238, L, hx238, L, rfl, (EnvHas.cons rfl (EnvHas.cons rfl (EnvHas.cons rfl (EnvHas.cons rfl (EnvHas.cons rfl (EnvHas.cons rfl EnvHas.nil)))))), h237⟩
              ·
                replace hR := ifF hR hc228
                refine W.condF (congrArg Value.bool (decide_eq_false hc228)) ?_
                refine W.regionT [(0, true), (1, true), (2, true), (3, false), (4, false), (5, true), (6, true), (7, true), (8, true), (9, true)] (by kernel_rfl) ?_
                refine Plan.move_ptr rfl rfl ?_
                refine Plan.move_int rfl rfl ?_
                refine Plan.convNU .u8 (a := i_174) FNetFull.u5 FNetFull.some3 rfl rfl ?_
                refine Plan.buildSlice h179 (ps := [(1, fun q => VU .u8 (lit ([(BitVec.ofNat 8 i_174)] : List Byte) q))]) FNetFull.slu23 FNetFull.sz5 FNetFull.zv5 (by decide) (by decide) rfl rfl rfl (EffO.keep PIn.nil) fun b239 w239 hb239 h239 => ?_
                simp only [rngs, List.cons_append, List.nil_append] at h239
                have ho239 : Ow (some ⟨b239, 0, none⟩) (some b239) ([(BitVec.ofNat 8 i_174)] : List Byte).length 1 (lit ([(BitVec.ofNat 8 i_174)] : List Byte)) ([(BitVec.ofNat 8 i_174)] : List Byte) := ⟨.inr ⟨b239, rfl, rfl⟩, Nat.le_refl _, rfl, fun q _ => rfl⟩
                have h240 := St.pickT (C := [_, _, _, _, _]) h239 [1, 2, 3, 4, 0] (by decide)
                simp only [pick, List.filterMap_cons, List.filterMap_nil, List.getElem?_cons_zero, List.getElem?_cons_succ, List.cons_append, List.nil_append] at h240
                obtain ⟨x_242, x_243, x_244, x_245, hr241, hR⟩ := hR
                refine Plan.call (vs := [.pointer (some ⟨b0_25, 0, none⟩), VN 1, VN 2, .slice (some ⟨b239, 0, none⟩) (([(BitVec.ofNat 8 i_174)] : List Byte).length) 1]) rfl FNetFull.call30 rfl (net_Net_Send_ok (w0 := w0) (LP := L) (by exact fun r hr => List.mem_append_right [_] ((fun _ h => h) r hr)) (by exact (ho239.bx 0 rfl)) hr241 (show St B (w0.on [mapR kvI (D60.at L) [] mw0_2_26 mp173]) _ _ from h240)) ?_
                rintro _ w246 ⟨C246, rfl, h246⟩
                replace h246 : St B (w0.on [mapR kvI (D60.at (C246 ++ L)) [] mw0_2_26 x_245]) _ _ := h246
                replace h246 := St.pool (N := [_, _, _, _]) (R := [_]) h246
                obtain ⟨L, hL247⟩ : ∃ X, X = C246 ++ L := ⟨_, rfl⟩
                have h247 := St.re (N := [_, _, _, _, _]) hL247 h246
                simp only [List.cons_append, List.nil_append] at h247
                replace hFr : Fr2 _ _ L L := hFr.step hL247 hL247
                replace hFj178 : Fr2 _ _ L L := hFj178.step hL247 hL247
                replace hFj225 : Fr2 _ _ L L := hFj225.step hL247 hL247
                have h249 := St.eqM (A' := L) h247 (i := 0) rfl hL247
                simp only [List.set_cons_zero, List.set_cons_succ] at h249
                refine ⟨_, rfl, .inl ⟨PIn.keep PIn.nil h249, ?_⟩⟩
                refine Plan.move_tuple rfl rfl ?_
                refine Plan.extract_int rfl rfl rfl ?_
                refine Plan.extract_int rfl rfl rfl ?_
                refine Plan.assign_int rfl rfl ?_
                refine Plan.assign_int rfl rfl ?_
                refine Plan.nil ?_
                have h250 := St.pickT (C := [_, _, _, _, _]) h249 [0, 1, 2, 3] (by decide)
                simp only [pick, List.filterMap_cons, List.filterMap_nil, List.getElem?_cons_zero, List.getElem?_cons_succ, List.cons_append, List.nil_append] at h250
                obtain ⟨CF251, hx251, hy251⟩ := hFj225
                exact ⟨x_245, x_242, x_243, x_244, hR, CF251, L, hx251, L, rfl, (EnvHas.cons rfl (EnvHas.cons rfl (EnvHas.cons rfl (EnvHas.cons rfl (EnvHas.cons rfl (EnvHas.cons rfl EnvHas.nil)))))), h250⟩
            ·
              replace hR := ifF hR hc227
              refine Plan.cmpV (a := (((i_174 : Nat) : Int) : Int)) (b := (0 : Int)) (p := 0 < i_174) (v := false) rfl rfl rfl rfl icmp_gtN (decide_eq_false hc227) ?_
              refine Plan.move_bool rfl rfl ?_
              refine Plan.passed rfl ?_
              refine Plan.passed rfl ?_
              refine Plan.passed rfl ?_
              refine Plan.pickFb rfl rfl rfl ?_
              refine Plan.nil ?_
              refine hK226 _ _ ?_; clear hK226
              refine W.condF rfl ?_
              refine W.regionT [(0, true), (1, true), (2, true), (3, false), (4, false), (5, true), (6, true), (7, true), (8, true), (9, true)] (by kernel_rfl) ?_
              refine Plan.move_ptr rfl rfl ?_
              refine Plan.move_int rfl rfl ?_
              refine Plan.convNU .u8 (a := i_174) FNetFull.u5 FNetFull.some3 rfl rfl ?_
              refine Plan.buildSlice h179 (ps := [(1, fun q => VU .u8 (lit ([(BitVec.ofNat 8 i_174)] : List Byte) q))]) FNetFull.slu23 FNetFull.sz5 FNetFull.zv5 (by decide) (by decide) rfl rfl rfl (EffO.keep PIn.nil) fun b252 w252 hb252 h252 => ?_
              simp only [rngs, List.cons_append, List.nil_append] at h252
              have ho252 : Ow (some ⟨b252, 0, none⟩) (some b252) ([(BitVec.ofNat 8 i_174)] : List Byte).length 1 (lit ([(BitVec.ofNat 8 i_174)] : List Byte)) ([(BitVec.ofNat 8 i_174)] : List Byte) := ⟨.inr ⟨b252, rfl, rfl⟩, Nat.le_refl _, rfl, fun q _ => rfl⟩
              have h253 := St.pickT (C := [_, _, _, _, _]) h252 [1, 2, 3, 4, 0] (by decide)
              simp only [pick, List.filterMap_cons, List.filterMap_nil, List.getElem?_cons_zero, List.getElem?_cons_succ, List.cons_append, List.nil_append] at h253
              obtain ⟨x_255, x_256, x_257, x_258, hr254, hR⟩ := hR
              refine Plan.call (vs := [.pointer (some ⟨b0_25, 0, none⟩), VN 1, VN 2, .slice (some ⟨b252, 0, none⟩) (([(BitVec.ofNat 8 i_174)] : List Byte).length) 1]) rfl FNetFull.call30 rfl (net_Net_Send_ok (w0 := w0) (LP := L) (by exact fun r hr => List.mem_append_right [_] ((fun _ h => h) r hr)) (by exact (ho252.bx 0 rfl)) hr254 (show St B (w0.on [mapR kvI (D60.at L) [] mw0_2_26 mp173]) _ _ from h253)) ?_
              rintro _ w259 ⟨C259, rfl, h259⟩
              replace h259 : St B (w0.on [mapR kvI (D60.at (C259 ++ L)) [] mw0_2_26 x_258]) _ _ := h259
              replace h259 := St.pool (N := [_, _, _, _]) (R := [_]) h259
              obtain ⟨L, hL260⟩ : ∃ X, X = C259 ++ L := ⟨_, rfl⟩
              have h260 := St.re (N := [_, _, _, _, _]) hL260 h259
              simp only [List.cons_append, List.nil_append] at h260
              replace hFr : Fr2 _ _ L L := hFr.step hL260 hL260
              replace hFj178 : Fr2 _ _ L L := hFj178.step hL260 hL260
              replace hFj225 : Fr2 _ _ L L := hFj225.step hL260 hL260
              have h262 := St.eqM (A' := L) h260 (i := 0) rfl hL260
              simp only [List.set_cons_zero, List.set_cons_succ] at h262
              refine ⟨_, rfl, .inl ⟨PIn.keep PIn.nil h262, ?_⟩⟩
              refine Plan.move_tuple rfl rfl ?_
              refine Plan.extract_int rfl rfl rfl ?_
              refine Plan.extract_int rfl rfl rfl ?_
              refine Plan.assign_int rfl rfl ?_
              refine Plan.assign_int rfl rfl ?_
              refine Plan.nil ?_
              have h263 := St.pickT (C := [_, _, _, _, _]) h262 [0, 1, 2, 3] (by decide)
              simp only [pick, List.filterMap_cons, List.filterMap_nil, List.getElem?_cons_zero, List.getElem?_cons_succ, List.cons_append, List.nil_append] at h263
              obtain ⟨CF264, hx264, hy264⟩ := hFj225
              exact ⟨x_258, x_255, x_256, x_257, hR, CF264, L, hx264, L, rfl, (EnvHas.cons rfl (EnvHas.cons rfl (EnvHas.cons rfl (EnvHas.cons rfl (EnvHas.cons rfl (EnvHas.cons rfl EnvHas.nil)))))), h263⟩
          ·
            rintro ev265 wl265 ⟨y_mp221, y_m222, y_e_223, y_m224, ⟨hy265_0, hy265_1, hy265_2, hy265_3⟩, CG265, LG265, hlg265, L, hLe265, he265, h265⟩
            subst hy265_0
            subst hy265_1
            subst hy265_2
            subst hy265_3
            obtain ⟨ev265, rfl⟩ := he265.open
            replace hR := hR0225
            have hL265 := hLe265.trans hlg265
            replace hFr : Fr2 _ _ L L := hFr.step hL265 hL265
            replace hFj178 : Fr2 _ _ L L := hFj178.step hL265 hL265
            replace hFj225 : Fr2 _ _ L L := hFj225.step hL265 hL265
            refine hK186 _ _ ?_; clear hK186
            refine W.seq_k fun K267 hK267 => ?_
            refine W.regionT [(0, true), (1, true), (2, true), (3, true), (4, true), (5, true), (6, true)] (by kernel_rfl) ?_
            refine Plan.move_int rfl rfl ?_
            refine Plan.move_int rfl rfl ?_
            by_cases hc268 : m222 ≠ ((i_174 : Nat) : Int)
            ·
              replace hR := ifT hR hc268
              refine Plan.cmpV (a := (m222 : Int)) (b := (((i_174 : Nat) : Int) : Int)) (p := m222 ≠ ((i_174 : Nat) : Int)) (v := true) rfl rfl rfl rfl icmp_ne (decide_eq_true hc268) ?_
              refine Plan.move_bool rfl rfl ?_
              refine Plan.passed rfl ?_
              refine Plan.passed rfl ?_
              refine Plan.pickTb rfl rfl rfl ?_
              refine Plan.nil ?_
              refine hK267 _ _ ?_; clear hK267
              refine W.condT rfl ?_
              refine W.seq_k fun K269 hK269 => ?_
              refine W.regionT [(0, true)] (by kernel_rfl) ?_
              refine Plan.assign_bool rfl rfl ?_
              refine Plan.nil ?_
              refine hK269 _ _ ?_; clear hK269
              refine W.ret (blockR_ret (thenR_ret (iterR_ret (blockR_ret (thenR_ret (thenR_ret (finR_ret ?_)))))))
              have h270 := St.pickT (C := [_, _, _, _]) h265 [] (by decide)
              simp only [pick, List.filterMap_cons, List.filterMap_nil, List.getElem?_cons_zero, List.getElem?_cons_succ, List.cons_append, List.nil_append] at h270
              have h271 : St B w0 _ _ := St.mpick (N := [mapR kvI (D60.at L) [] mw0_2_26 mp221]) (N' := []) h270 [] (by decide) rfl
              replace hR := hR.2
              subst r
              refine RetOk.mk (.tmp_bool rfl .nil) ?_
              obtain ⟨CF, hx1, hx2⟩ := hFr
              subst hx1
              have hdr := St.dropC (N := []) h271
              exact ⟨rfl, hdr⟩
            ·
              replace hR := ifF hR hc268
              refine Plan.cmpV (a := (m222 : Int)) (b := (((i_174 : Nat) : Int) : Int)) (p := m222 ≠ ((i_174 : Nat) : Int)) (v := false) rfl rfl rfl rfl icmp_ne (decide_eq_false hc268) ?_
              refine Plan.move_bool rfl rfl ?_
              refine Plan.move_int rfl rfl ?_
              refine Plan.cmpP (a := (((e_223 : Nat) : Int) : Int)) (b := (0 : Int)) (p := e_223 ≠ 0) rfl rfl rfl rfl icmp_neN ?_
              refine Plan.pickFb rfl rfl rfl ?_
              refine Plan.nil ?_
              refine hK267 _ _ ?_; clear hK267
              by_cases hc272 : e_223 ≠ 0
              ·
                replace hR := ifT hR hc272
                refine W.condT (congrArg Value.bool (decide_eq_true hc272)) ?_
                refine W.seq_k fun K273 hK273 => ?_
                refine W.regionT [(0, true)] (by kernel_rfl) ?_
                refine Plan.assign_bool rfl rfl ?_
                refine Plan.nil ?_
                refine hK273 _ _ ?_; clear hK273
                refine W.ret (blockR_ret (thenR_ret (iterR_ret (blockR_ret (thenR_ret (thenR_ret (finR_ret ?_)))))))
                have h274 := St.pickT (C := [_, _, _, _]) h265 [] (by decide)
                simp only [pick, List.filterMap_cons, List.filterMap_nil, List.getElem?_cons_zero, List.getElem?_cons_succ, List.cons_append, List.nil_append] at h274
                have h275 : St B w0 _ _ := St.mpick (N := [mapR kvI (D60.at L) [] mw0_2_26 mp221]) (N' := []) h274 [] (by decide) rfl
                replace hR := hR.2
                subst r
                refine RetOk.mk (.tmp_bool rfl .nil) ?_
                obtain ⟨CF, hx1, hx2⟩ := hFr
                subst hx1
                have hdr := St.dropC (N := []) h275
                exact ⟨rfl, hdr⟩
              ·
                replace hR := ifF hR hc272
                refine W.condF (congrArg Value.bool (decide_eq_false hc272)) ?_
                refine W.skip ?_
                refine blockR_norm ?_
                refine hK184 _ _ ?_; clear hK184
                refine W.regionT [(0, true), (1, true), (2, true)] (by kernel_rfl) ?_
                refine Plan.move_int rfl rfl ?_
                refine Plan.addN (a := i_174) (b := 1) rfl rfl rfl (by omega) ?_
                refine Plan.assign_int rfl rfl ?_
                refine Plan.nil ?_
                obtain ⟨CF276, hx276, hy276⟩ := hFj178
                exact iterR_norm ⟨_, hR, CF276, L, hx276, L, rfl, (EnvHas.cons rfl (EnvHas.cons rfl (EnvHas.cons rfl (EnvHas.cons rfl EnvHas.nil)))), h265⟩
        ·
          replace hR := ifF hR hc183
          refine W.condF (congrArg Value.bool (decide_eq_false hc183)) ?_
          refine W.exit (thenR_exit (iterR_exit (blockR_here ?_)))
          obtain ⟨CF277, hx277, hy277⟩ := hFj178
          exact ⟨mp173, m175, (hx178 _ hR).symm, CF277, L, hx277, L, rfl, (EnvHas.cons rfl (EnvHas.cons rfl (EnvHas.cons rfl EnvHas.nil))), h179⟩
      ·
        rintro ev278 wl278 ⟨y_mp176, y_m177, hy278, CG278, LG278, hlg278, L, hLe278, he278, h278⟩
        obtain ⟨ev278, rfl⟩ := he278.open
        replace hR := hR0178 y_mp176 y_m177 hy278
        obtain ⟨mp176, e_mp176⟩ : ∃ z, z = y_mp176 := ⟨_, rfl⟩; subst e_mp176
        obtain ⟨m177, e_m177⟩ : ∃ z, z = y_m177 := ⟨_, rfl⟩; subst e_m177
        have hL278 := hLe278.trans hlg278
        replace hFr : Fr2 _ _ L L := hFr.step hL278 hL278
        replace hFj178 : Fr2 _ _ L L := hFj178.step hL278 hL278
        refine hK40 _ _ ?_; clear hK40
        refine W.seq_k fun K280 hK280 => ?_
        refine W.regionT [(0, true), (1, false), (2, true), (3, true), (4, true), (5, true), (6, true)] (by kernel_rfl) ?_
        refine Plan.move_ptr rfl rfl ?_
        obtain ⟨x_282, x_283, x_284, x_285, hr281, hR⟩ := hR
        refine Plan.call (vs := [.pointer (some ⟨b0_25, 0, none⟩), VN 1, VN 2, .slice none 0 0]) rfl FNetFull.call30 rfl (net_Net_Send_ok (w0 := w0) (LP := L) (by exact fun r hr => List.mem_append_right [] ((fun _ h => h) r hr)) (by exact (Bx.nil 0)) hr281 (show St B (w0.on [mapR kvI (D60.at L) [] mw0_2_26 mp176]) _ _ from h278)) ?_
        rintro _ w286 ⟨C286, rfl, h286⟩
        replace h286 : St B (w0.on [mapR kvI (D60.at (C286 ++ L)) [] mw0_2_26 x_285]) _ _ := h286
        replace h286 := St.pool (N := [_, _, _, _]) (R := []) h286
        obtain ⟨L, hL287⟩ : ∃ X, X = C286 ++ L := ⟨_, rfl⟩
        have h287 := St.re (N := [_, _, _, _]) hL287 h286
        simp only [List.cons_append, List.nil_append] at h287
        replace hFr : Fr2 _ _ L L := hFr.step hL287 hL287
        replace hFj178 : Fr2 _ _ L L := hFj178.step hL287 hL287
        have h289 := St.eqM (A' := L) h287 (i := 0) rfl hL287
        simp only [List.set_cons_zero, List.set_cons_succ] at h289
        refine ⟨_, rfl, .inl ⟨PIn.keep PIn.nil h289, ?_⟩⟩
        refine Plan.move_tuple rfl rfl ?_
        refine Plan.extract_int rfl rfl rfl ?_
        refine Plan.extract_int rfl rfl rfl ?_
        refine Plan.assign_int rfl rfl ?_
        refine Plan.assign_int rfl rfl ?_
        refine Plan.nil ?_
        refine hK280 _ _ ?_; clear hK280
        refine W.seq_k fun K290 hK290 => ?_
        refine W.seq_k fun K315 hK315 => ?_
        refine W.regionT [(0, true), (1, true), (2, true), (3, true), (4, false), (5, true), (6, true), (7, true), (8, true), (9, true), (10, false), (11, true), (12, true), (13, true), (14, true)] (by kernel_rfl) ?_
        refine Plan.move_int rfl rfl ?_
        by_cases hc316 : x_283 ≠ 231
        ·
          replace hR := ifT hR hc316
          refine Plan.cmpV (a := (((x_283 : Nat) : Int) : Int)) (b := (231 : Int)) (p := x_283 ≠ 231) (v := true) rfl rfl rfl rfl icmp_neN (decide_eq_true hc316) ?_
          refine Plan.move_bool rfl rfl ?_
          refine Plan.passed rfl ?_
          refine Plan.passed rfl ?_
          refine Plan.passed rfl ?_
          refine Plan.passed rfl ?_
          refine Plan.pickTb rfl rfl rfl ?_
          refine Plan.move_bool rfl rfl ?_
          refine Plan.passed rfl ?_
          refine Plan.passed rfl ?_
          refine Plan.passed rfl ?_
          refine Plan.passed rfl ?_
          refine Plan.passed rfl ?_
          refine Plan.pickTb rfl rfl rfl ?_
          refine Plan.nil ?_
          refine hK315 _ _ ?_; clear hK315
          refine W.condT rfl ?_
          refine W.seq_k fun K317 hK317 => ?_
          refine W.regionT [(0, true)] (by kernel_rfl) ?_
          refine Plan.assign_bool rfl rfl ?_
          refine Plan.nil ?_
          refine hK317 _ _ ?_; clear hK317
          refine W.ret (thenR_ret (finR_ret ?_))
          have h318 := St.pickT (C := [_, _, _, _]) h289 [] (by decide)
          simp only [pick, List.filterMap_cons, List.filterMap_nil, List.getElem?_cons_zero, List.getElem?_cons_succ, List.cons_append, List.nil_append] at h318
          have h319 : St B w0 _ _ := St.mpick (N := [mapR kvI (D60.at L) [] mw0_2_26 x_285]) (N' := []) h318 [] (by decide) rfl
          subst r
          refine RetOk.mk (.tmp_bool rfl .nil) ?_
          obtain ⟨CF, hx1, hx2⟩ := hFr
          subst hx1
          have hdr := St.dropC (N := []) h319
          exact ⟨rfl, hdr⟩
        ·
          replace hR := ifF hR hc316
          refine Plan.cmpV (a := (((x_283 : Nat) : Int) : Int)) (b := (231 : Int)) (p := x_283 ≠ 231) (v := false) rfl rfl rfl rfl icmp_neN (decide_eq_false hc316) ?_
          refine Plan.move_bool rfl rfl ?_
          refine Plan.move_ptr rfl rfl ?_
          obtain ⟨x_321, hr320, hR⟩ := hR
          refine Plan.call (vs := [.pointer (some ⟨b0_25, 0, none⟩)]) rfl FNetFull.call45 rfl (net_Net_Next_ok (w0 := w0) (LP := L) (by exact fun r hr => List.mem_append_right [] ((fun _ h => h) r hr)) hr320 (show St B (w0.on [mapR kvI (D60.at L) [] mw0_2_26 x_285]) _ _ from h289)) ?_
          rintro _ w322 ⟨C322, rfl, h322⟩
          replace h322 : St B (w0.on [mapR kvI (D60.at (C322 ++ L)) [] mw0_2_26 x_285]) _ _ := h322
          replace h322 := St.pool (N := [_, _, _, _]) (R := []) h322
          obtain ⟨L, hL323⟩ : ∃ X, X = C322 ++ L := ⟨_, rfl⟩
          have h323 := St.re (N := [_, _, _, _]) hL323 h322
          simp only [List.cons_append, List.nil_append] at h323
          replace hFr : Fr2 _ _ L L := hFr.step hL323 hL323
          replace hFj178 : Fr2 _ _ L L := hFj178.step hL323 hL323
          have h325 := St.eqM (A' := L) h323 (i := 0) rfl hL323
          simp only [List.set_cons_zero, List.set_cons_succ] at h325
          refine ⟨_, rfl, .inl ⟨PIn.keep PIn.nil h325, ?_⟩⟩
          refine Plan.move_int rfl rfl ?_
          by_cases hc326 : x_321 ≠ ((max most1 (w64 (-(w64 (most1 + 1))))).tmod 40)
          ·
            replace hR := ifT hR hc326
            refine Plan.cmpV (a := (x_321 : Int)) (b := (((max most1 (w64 (-(w64 (most1 + 1))))).tmod 40) : Int)) (p := x_321 ≠ ((max most1 (w64 (-(w64 (most1 + 1))))).tmod 40)) (v := true) rfl rfl rfl rfl icmp_ne (decide_eq_true hc326) ?_
            refine Plan.pickFb rfl rfl rfl ?_
            refine Plan.move_bool rfl rfl ?_
            refine Plan.passed rfl ?_
            refine Plan.passed rfl ?_
            refine Plan.passed rfl ?_
            refine Plan.passed rfl ?_
            refine Plan.passed rfl ?_
            refine Plan.pickTb rfl rfl rfl ?_
            refine Plan.nil ?_
            refine hK315 _ _ ?_; clear hK315
            refine W.condT rfl ?_
            refine W.seq_k fun K327 hK327 => ?_
            refine W.regionT [(0, true)] (by kernel_rfl) ?_
            refine Plan.assign_bool rfl rfl ?_
            refine Plan.nil ?_
            refine hK327 _ _ ?_; clear hK327
            refine W.ret (thenR_ret (finR_ret ?_))
            have h328 := St.pickT (C := [_, _, _, _]) h325 [] (by decide)
            simp only [pick, List.filterMap_cons, List.filterMap_nil, List.getElem?_cons_zero, List.getElem?_cons_succ, List.cons_append, List.nil_append] at h328
            have h329 : St B w0 _ _ := St.mpick (N := [mapR kvI (D60.at L) [] mw0_2_26 x_285]) (N' := []) h328 [] (by decide) rfl
            subst r
            refine RetOk.mk (.tmp_bool rfl .nil) ?_
            obtain ⟨CF, hx1, hx2⟩ := hFr
            subst hx1
            have hdr := St.dropC (N := []) h329
            exact ⟨rfl, hdr⟩
          ·
            replace hR := ifF hR hc326
            refine Plan.cmpV (a := (x_321 : Int)) (b := (((max most1 (w64 (-(w64 (most1 + 1))))).tmod 40) : Int)) (p := x_321 ≠ ((max most1 (w64 (-(w64 (most1 + 1))))).tmod 40)) (v := false) rfl rfl rfl rfl icmp_ne (decide_eq_false hc326) ?_
            refine Plan.pickFb rfl rfl rfl ?_
            refine Plan.move_bool rfl rfl ?_
            refine Plan.move_ptr rfl rfl ?_
            obtain ⟨x_331, hr330, hR⟩ := hR
            refine Plan.call (vs := [.pointer (some ⟨b0_25, 0, none⟩)]) rfl FNetFull.call32 rfl (net_Net_Flights_ok (w0 := w0) (LP := L) (by exact fun r hr => List.mem_append_right [] ((fun _ h => h) r hr)) hr330 (show St B (w0.on [mapR kvI (D60.at L) [] mw0_2_26 x_285]) _ _ from h325)) ?_
            rintro _ w337 ⟨C337, ay0_332, py0_333, ny0_334, cy0_335, Fy0_336, rfl, h337, hf337_0⟩
            replace h337 : St B (w0.on [mapR kvI (D60.at (C337 ++ L)) [] mw0_2_26 x_285]) _ _ := h337
            replace h337 := St.pool (N := [_, _, _, _, _]) (R := []) h337
            obtain ⟨L, hL338⟩ : ∃ X, X = C337 ++ L := ⟨_, rfl⟩
            have h338 := St.re (N := [_, _, _, _, _]) hL338 h337
            simp only [List.cons_append, List.nil_append] at h338
            replace hFr : Fr2 _ _ L L := hFr.step hL338 hL338
            replace hFj178 : Fr2 _ _ L L := hFj178.step hL338 hL338
            have h340 := St.eqM (A' := L) h338 (i := 0) rfl hL338
            simp only [List.set_cons_zero, List.set_cons_succ] at h340
            obtain rfl := hf337_0.hl
            have hd337_0 : LO (D60.at L) [] ay0_332 py0_333 (x_331).length cy0_335 Fy0_336 x_331 := LO.grow D60_lifts (fun r hr => (by rw [hL338]; exact hr)) hf337_0
            refine ⟨_, rfl, .inl ⟨PIn.keep PIn.nil h340, ?_⟩⟩
            refine Plan.len FNetFull.isl57 rfl rfl ?_
            refine Plan.move_int rfl rfl ?_
            refine Plan.cmpP (a := (((x_331.length : Nat) : Int) : Int)) (b := (((max most1 (w64 (-(w64 (most1 + 1))))).tmod 40) : Int)) (p := ((x_331.length : Nat) : Int) ≠ ((max most1 (w64 (-(w64 (most1 + 1))))).tmod 40)) rfl rfl rfl rfl icmp_ne ?_
            refine Plan.pickFb rfl rfl rfl ?_
            refine Plan.nil ?_
            refine hK315 _ _ ?_; clear hK315
            by_cases hc341 : ((x_331.length : Nat) : Int) ≠ ((max most1 (w64 (-(w64 (most1 + 1))))).tmod 40)
            ·
              replace hR := ifT hR hc341
              refine W.condT (congrArg Value.bool (decide_eq_true hc341)) ?_
              refine W.seq_k fun K342 hK342 => ?_
              refine W.regionT [(0, true)] (by kernel_rfl) ?_
              refine Plan.assign_bool rfl rfl ?_
              refine Plan.nil ?_
              refine hK342 _ _ ?_; clear hK342
              refine W.ret (thenR_ret (finR_ret ?_))
              have h343 := St.pickT (C := [_, _, _, _, _]) h340 [] (by decide)
              simp only [pick, List.filterMap_cons, List.filterMap_nil, List.getElem?_cons_zero, List.getElem?_cons_succ, List.cons_append, List.nil_append] at h343
              have h344 : St B w0 _ _ := St.mpick (N := [mapR kvI (D60.at L) [] mw0_2_26 x_285]) (N' := []) h343 [] (by decide) rfl
              subst r
              refine RetOk.mk (.tmp_bool rfl .nil) ?_
              obtain ⟨CF, hx1, hx2⟩ := hFr
              subst hx1
              have hdr := St.dropC (N := []) h344
              exact ⟨rfl, hdr⟩
            ·
              replace hR := ifF hR hc341
              refine W.condF (congrArg Value.bool (decide_eq_false hc341)) ?_
              refine W.skip ?_
              refine hK290 _ _ ?_; clear hK290
              refine W.seq_k fun K345 hK345 => ?_
              refine W.seq_k fun K346 hK346 => ?_
              refine W.regionT [(0, true), (1, true)] (by kernel_rfl) ?_
              refine Plan.move_int rfl rfl ?_
              refine Plan.cmpP (a := (((max most1 (w64 (-(w64 (most1 + 1))))).tmod 40) : Int)) (b := (0 : Int)) (p := ((max most1 (w64 (-(w64 (most1 + 1))))).tmod 40) = 0) rfl rfl rfl rfl icmp_eq ?_
              refine Plan.nil ?_
              refine hK346 _ _ ?_; clear hK346
              by_cases hc347 : ((max most1 (w64 (-(w64 (most1 + 1))))).tmod 40) = 0
              ·
                replace hR := ifT hR hc347
                refine W.condT (congrArg Value.bool (decide_eq_true hc347)) ?_
                refine W.seq_k fun K348 hK348 => ?_
                refine W.regionT [(0, true)] (by kernel_rfl) ?_
                refine Plan.assign_bool rfl rfl ?_
                refine Plan.nil ?_
                refine hK348 _ _ ?_; clear hK348
                refine W.ret (thenR_ret (finR_ret ?_))
                have h349 := St.pickT (C := [_, _, _, _, _]) h340 [] (by decide)
                simp only [pick, List.filterMap_cons, List.filterMap_nil, List.getElem?_cons_zero, List.getElem?_cons_succ, List.cons_append, List.nil_append] at h349
                have h350 : St B w0 _ _ := St.mpick (N := [mapR kvI (D60.at L) [] mw0_2_26 x_285]) (N' := []) h349 [] (by decide) rfl
                subst r
                refine RetOk.mk (.tmp_bool rfl .nil) ?_
                obtain ⟨CF, hx1, hx2⟩ := hFr
                subst hx1
                have hdr := St.dropC (N := []) h350
                exact ⟨rfl, hdr⟩
              ·
                replace hR := ifF hR hc347
                refine W.condF (congrArg Value.bool (decide_eq_false hc347)) ?_
                refine W.skip ?_
                refine hK345 _ _ ?_; clear hK345
                refine W.seq_k fun K351 hK351 => ?_
                refine W.regionT [(0, true), (1, true), (2, true), (3, true), (4, true), (5, true), (6, true), (7, true)] (by kernel_rfl) ?_
                refine Plan.move_int rfl rfl ?_
                refine Plan.move_int rfl rfl ?_
                refine Plan.addW (a := k2) (b := 1) rfl rfl rfl ?_
                refine Plan.negW (a := (w64 (k2 + 1))) rfl rfl ?_
                refine Plan.maxI (a := k2) (b := (w64 (-(w64 (k2 + 1))))) rfl rfl rfl ?_
                refine Plan.move_int rfl rfl ?_
                obtain ⟨hc352, hR⟩ := hR
                refine Plan.remI (a := (max k2 (w64 (-(w64 (k2 + 1)))))) (b := ((max most1 (w64 (-(w64 (most1 + 1))))).tmod 40)) rfl rfl rfl hc352 ?_
                refine Plan.assign_int rfl rfl ?_
                refine Plan.nil ?_
                refine hK351 _ _ ?_; clear hK351
                refine W.seq_k fun K353 hK353 => ?_
                refine W.regionT [(0, true), (1, true), (2, false), (3, true), (4, true), (5, true), (6, true), (7, true)] (by kernel_rfl) ?_
                refine Plan.move_ptr rfl rfl ?_
                refine Plan.move_int rfl rfl ?_
                have h354 := St.pickT (C := [_, _, _, _, _]) h340 [1, 2, 3, 4, 0] (by decide)
                simp only [pick, List.filterMap_cons, List.filterMap_nil, List.getElem?_cons_zero, List.getElem?_cons_succ, List.cons_append, List.nil_append] at h354
                obtain ⟨x_356, x_357, x_358, x_359, hr355, hR⟩ := hR
                refine Plan.call (vs := [.pointer (some ⟨b0_25, 0, none⟩), .int .i64 ((max k2 (w64 (-(w64 (k2 + 1))))).tmod ((max most1 (w64 (-(w64 (most1 + 1))))).tmod 40))]) rfl FNetFull.call31 rfl (net_Net_Copy_ok (w0 := w0) (LP := L) (by exact fun r hr => List.mem_append_right [_] ((fun _ h => h) r hr)) hr355 (show St B (w0.on [mapR kvI (D60.at L) [] mw0_2_26 x_285]) _ _ from h354)) ?_
                rintro _ w360 ⟨C360, rfl, h360⟩
                replace h360 : St B (w0.on [mapR kvI (D60.at (C360 ++ L)) [] mw0_2_26 x_359]) _ _ := h360
                replace h360 := St.pool (N := [_, _, _, _]) (R := [_]) h360
                obtain ⟨L, hL361⟩ : ∃ X, X = C360 ++ L := ⟨_, rfl⟩
                have h361 := St.re (N := [_, _, _, _, _]) hL361 h360
                simp only [List.cons_append, List.nil_append] at h361
                replace hFr : Fr2 _ _ L L := hFr.step hL361 hL361
                replace hFj178 : Fr2 _ _ L L := hFj178.step hL361 hL361
                have ho362 : LO (D60.at L) [] ay0_332 py0_333 ((x_331).length) cy0_335 Fy0_336 x_331 := by rw [hL361]; exact LO.grow D60_lifts (fun r hr => List.mem_append_right _ hr) hd337_0
                have h364 := St.eqM (A' := L) h361 (i := 0) rfl hL361
                simp only [List.set_cons_zero, List.set_cons_succ] at h364
                refine ⟨_, rfl, .inl ⟨PIn.keep PIn.nil h364, ?_⟩⟩
                refine Plan.move_tuple rfl rfl ?_
                refine Plan.extract_int rfl rfl rfl ?_
                refine Plan.extract_int rfl rfl rfl ?_
                refine Plan.assign_int rfl rfl ?_
                refine Plan.assign_int rfl rfl ?_
                refine Plan.nil ?_
                refine hK353 _ _ ?_; clear hK353
                refine W.seq_k fun K365 hK365 => ?_
                refine W.regionT [(0, true), (1, true), (2, false), (3, true), (4, true), (5, true), (6, true), (7, true)] (by kernel_rfl) ?_
                refine Plan.move_ptr rfl rfl ?_
                refine Plan.move_int rfl rfl ?_
                obtain ⟨x_367, x_368, x_369, x_370, hr366, hR⟩ := hR
                refine Plan.call (vs := [.pointer (some ⟨b0_25, 0, none⟩), .int .i64 ((max most1 (w64 (-(w64 (most1 + 1))))).tmod 40)]) rfl FNetFull.call31 rfl (net_Net_Copy_ok (w0 := w0) (LP := L) (by exact fun r hr => List.mem_append_right [_] ((fun _ h => h) r hr)) hr366 (show St B (w0.on [mapR kvI (D60.at L) [] mw0_2_26 x_359]) _ _ from h364)) ?_
                rintro _ w371 ⟨C371, rfl, h371⟩
                replace h371 : St B (w0.on [mapR kvI (D60.at (C371 ++ L)) [] mw0_2_26 x_370]) _ _ := h371
                replace h371 := St.pool (N := [_, _, _, _]) (R := [_]) h371
                obtain ⟨L, hL372⟩ : ∃ X, X = C371 ++ L := ⟨_, rfl⟩
                have h372 := St.re (N := [_, _, _, _, _]) hL372 h371
                simp only [List.cons_append, List.nil_append] at h372
                replace hFr : Fr2 _ _ L L := hFr.step hL372 hL372
                replace hFj178 : Fr2 _ _ L L := hFj178.step hL372 hL372
                have ho373 : LO (D60.at L) [] ay0_332 py0_333 ((x_331).length) cy0_335 Fy0_336 x_331 := by rw [hL372]; exact LO.grow D60_lifts (fun r hr => List.mem_append_right _ hr) ho362
                have h375 := St.eqM (A' := L) h372 (i := 0) rfl hL372
                simp only [List.set_cons_zero, List.set_cons_succ] at h375
                refine ⟨_, rfl, .inl ⟨PIn.keep PIn.nil h375, ?_⟩⟩
                refine Plan.move_tuple rfl rfl ?_
                refine Plan.extract_int rfl rfl rfl ?_
                refine Plan.extract_int rfl rfl rfl ?_
                refine Plan.assign_int rfl rfl ?_
                refine Plan.assign_int rfl rfl ?_
                refine Plan.nil ?_
                refine hK365 _ _ ?_; clear hK365
                refine W.seq_k fun K376 hK376 => ?_
                refine W.regionT [(0, true), (1, true), (2, false), (3, true)] (by kernel_rfl) ?_
                refine Plan.move_ptr rfl rfl ?_
                refine Plan.move_int rfl rfl ?_
                obtain ⟨x_378, x_379, hr377, hR⟩ := hR
                refine Plan.call (vs := [.pointer (some ⟨b0_25, 0, none⟩), .int .i64 ((max k2 (w64 (-(w64 (k2 + 1))))).tmod ((max most1 (w64 (-(w64 (most1 + 1))))).tmod 40))]) rfl FNetFull.call48 rfl (net_Net_Drop_ok (w0 := w0) (LP := L) (by exact fun r hr => List.mem_append_right [_] ((fun _ h => h) r hr)) hr377 (show St B (w0.on [mapR kvI (D60.at L) [] mw0_2_26 x_370]) _ _ from h375)) ?_
                rintro _ w380 ⟨C380, rfl, h380⟩
                replace h380 : St B (w0.on [mapR kvI (D60.at (C380 ++ L)) [] mw0_2_26 x_379]) _ _ := h380
                replace h380 := St.pool (N := [_, _, _, _]) (R := [_]) h380
                obtain ⟨L, hL381⟩ : ∃ X, X = C380 ++ L := ⟨_, rfl⟩
                have h381 := St.re (N := [_, _, _, _, _]) hL381 h380
                simp only [List.cons_append, List.nil_append] at h381
                replace hFr : Fr2 _ _ L L := hFr.step hL381 hL381
                replace hFj178 : Fr2 _ _ L L := hFj178.step hL381 hL381
                have ho382 : LO (D60.at L) [] ay0_332 py0_333 ((x_331).length) cy0_335 Fy0_336 x_331 := by rw [hL381]; exact LO.grow D60_lifts (fun r hr => List.mem_append_right _ hr) ho373
                have h384 := St.eqM (A' := L) h381 (i := 0) rfl hL381
                simp only [List.set_cons_zero, List.set_cons_succ] at h384
                refine ⟨_, rfl, .inl ⟨PIn.keep PIn.nil h384, ?_⟩⟩
                refine Plan.assign_int rfl rfl ?_
                refine Plan.nil ?_
                refine hK376 _ _ ?_; clear hK376
                refine W.seq_k fun K385 hK385 => ?_
                refine W.regionT [(0, true), (1, false), (2, true), (3, true), (4, true), (5, true), (6, true)] (by kernel_rfl) ?_
                refine Plan.move_ptr rfl rfl ?_
                obtain ⟨x_387, x_388, x_389, x_390, hr386, hR⟩ := hR
                refine Plan.call (vs := [.pointer (some ⟨b0_25, 0, none⟩), VN 2, VN 1, .slice none 0 0]) rfl FNetFull.call30 rfl (net_Net_Send_ok (w0 := w0) (LP := L) (by exact fun r hr => List.mem_append_right [_] ((fun _ h => h) r hr)) (by exact (Bx.nil 0)) hr386 (show St B (w0.on [mapR kvI (D60.at L) [] mw0_2_26 x_379]) _ _ from h384)) ?_
                rintro _ w391 ⟨C391, rfl, h391⟩
                replace h391 : St B (w0.on [mapR kvI (D60.at (C391 ++ L)) [] mw0_2_26 x_390]) _ _ := h391
                replace h391 := St.pool (N := [_, _, _, _]) (R := [_]) h391
                obtain ⟨L, hL392⟩ : ∃ X, X = C391 ++ L := ⟨_, rfl⟩
                have h392 := St.re (N := [_, _, _, _, _]) hL392 h391
                simp only [List.cons_append, List.nil_append] at h392
                replace hFr : Fr2 _ _ L L := hFr.step hL392 hL392
                replace hFj178 : Fr2 _ _ L L := hFj178.step hL392 hL392
                have ho393 : LO (D60.at L) [] ay0_332 py0_333 ((x_331).length) cy0_335 Fy0_336 x_331 := by rw [hL392]; exact LO.grow D60_lifts (fun r hr => List.mem_append_right _ hr) ho382
                have h395 := St.eqM (A' := L) h392 (i := 0) rfl hL392
                simp only [List.set_cons_zero, List.set_cons_succ] at h395
                refine ⟨_, rfl, .inl ⟨PIn.keep PIn.nil h395, ?_⟩⟩
                refine Plan.move_tuple rfl rfl ?_
                refine Plan.extract_int rfl rfl rfl ?_
                refine Plan.extract_int rfl rfl rfl ?_
                refine Plan.assign_int rfl rfl ?_
                refine Plan.assign_int rfl rfl ?_
                refine Plan.nil ?_
                refine hK385 _ _ ?_; clear hK385
                refine W.seq_k fun K396 hK396 => ?_
                refine W.regionT [(0, true), (1, false), (2, true), (3, true), (4, true), (5, true), (6, true)] (by kernel_rfl) ?_
                refine Plan.move_ptr rfl rfl ?_
                obtain ⟨x_398, x_399, x_400, x_401, hr397, hR⟩ := hR
                refine Plan.call (vs := [.pointer (some ⟨b0_25, 0, none⟩), VN 2, VN 1, .slice none 0 0]) rfl FNetFull.call30 rfl (net_Net_Send_ok (w0 := w0) (LP := L) (by exact fun r hr => List.mem_append_right [_] ((fun _ h => h) r hr)) (by exact (Bx.nil 0)) hr397 (show St B (w0.on [mapR kvI (D60.at L) [] mw0_2_26 x_390]) _ _ from h395)) ?_
                rintro _ w402 ⟨C402, rfl, h402⟩
                replace h402 : St B (w0.on [mapR kvI (D60.at (C402 ++ L)) [] mw0_2_26 x_401]) _ _ := h402
                replace h402 := St.pool (N := [_, _, _, _]) (R := [_]) h402
                obtain ⟨L, hL403⟩ : ∃ X, X = C402 ++ L := ⟨_, rfl⟩
                have h403 := St.re (N := [_, _, _, _, _]) hL403 h402
                simp only [List.cons_append, List.nil_append] at h403
                replace hFr : Fr2 _ _ L L := hFr.step hL403 hL403
                replace hFj178 : Fr2 _ _ L L := hFj178.step hL403 hL403
                have ho404 : LO (D60.at L) [] ay0_332 py0_333 ((x_331).length) cy0_335 Fy0_336 x_331 := by rw [hL403]; exact LO.grow D60_lifts (fun r hr => List.mem_append_right _ hr) ho393
                have h406 := St.eqM (A' := L) h403 (i := 0) rfl hL403
                simp only [List.set_cons_zero, List.set_cons_succ] at h406
                refine ⟨_, rfl, .inl ⟨PIn.keep PIn.nil h406, ?_⟩⟩
                refine Plan.move_tuple rfl rfl ?_
                refine Plan.extract_int rfl rfl rfl ?_
                refine Plan.extract_int rfl rfl rfl ?_
                refine Plan.assign_int rfl rfl ?_
                refine Plan.assign_int rfl rfl ?_
                refine Plan.nil ?_
                refine hK396 _ _ ?_; clear hK396
                refine W.seq_k fun K407 hK407 => ?_
                refine W.regionT [(0, true), (1, true), (2, true), (3, true), (4, true), (5, true), (6, true), (7, true), (8, true), (9, true), (10, true), (11, true), (12, true), (13, true), (14, true), (15, true), (16, true), (17, true), (18, true), (19, true), (20, true), (21, true), (22, true), (23, true)] (by kernel_rfl) ?_
                refine Plan.move_int rfl rfl ?_
                by_cases hc408 : x_357 = 231
                ·
                  replace hR := ifT hR hc408
                  refine Plan.cmpV (a := (((x_357 : Nat) : Int) : Int)) (b := (231 : Int)) (p := x_357 = 231) (v := true) rfl rfl rfl rfl icmp_eqN (decide_eq_true hc408) ?_
                  refine Plan.move_bool rfl rfl ?_
                  refine Plan.move_int rfl rfl ?_
                  by_cases hc409 : x_368 = 230
                  ·
                    replace hR := ifT hR hc409
                    refine Plan.cmpV (a := (((x_368 : Nat) : Int) : Int)) (b := (230 : Int)) (p := x_368 = 230) (v := true) rfl rfl rfl rfl icmp_eqN (decide_eq_true hc409) ?_
                    refine Plan.pickTb rfl rfl rfl ?_
                    refine Plan.move_bool rfl rfl ?_
                    refine Plan.move_int rfl rfl ?_
                    by_cases hc410 : x_378 = 0
                    ·
                      replace hR := ifT hR hc410
                      refine Plan.cmpV (a := (((x_378 : Nat) : Int) : Int)) (b := (0 : Int)) (p := x_378 = 0) (v := true) rfl rfl rfl rfl icmp_eqN (decide_eq_true hc410) ?_
                      refine Plan.pickTb rfl rfl rfl ?_
                      refine Plan.move_bool rfl rfl ?_
                      refine Plan.move_int rfl rfl ?_
                      by_cases hc411 : x_388 = 0
                      ·
                        replace hR := ifT hR hc411
                        refine Plan.cmpV (a := (((x_388 : Nat) : Int) : Int)) (b := (0 : Int)) (p := x_388 = 0) (v := true) rfl rfl rfl rfl icmp_eqN (decide_eq_true hc411) ?_
                        refine Plan.pickTb rfl rfl rfl ?_
                        refine Plan.move_bool rfl rfl ?_
                        refine Plan.move_int rfl rfl ?_
                        refine Plan.move_int rfl rfl ?_
                        by_cases hc412 : x_387 = ((max most1 (w64 (-(w64 (most1 + 1))))).tmod 40)
                        ·
                          replace hR := ifT hR hc412
                          refine Plan.cmpV (a := (x_387 : Int)) (b := (((max most1 (w64 (-(w64 (most1 + 1))))).tmod 40) : Int)) (p := x_387 = ((max most1 (w64 (-(w64 (most1 + 1))))).tmod 40)) (v := true) rfl rfl rfl rfl icmp_eq (decide_eq_true hc412) ?_
                          refine Plan.pickTb rfl rfl rfl ?_
                          refine Plan.move_bool rfl rfl ?_
                          refine Plan.move_int rfl rfl ?_
                          refine Plan.cmpP (a := (((x_399 : Nat) : Int) : Int)) (b := (231 : Int)) (p := x_399 = 231) rfl rfl rfl rfl icmp_eqN ?_
                          refine Plan.pickTb rfl rfl rfl ?_
                          refine Plan.assign_bool rfl rfl ?_
                          refine Plan.nil ?_
                          refine hK407 _ _ ?_; clear hK407
                          refine W.ret (finR_ret ?_)
                          have h413 := St.pickT (C := [_, _, _, _, _]) h406 [] (by decide)
                          simp only [pick, List.filterMap_cons, List.filterMap_nil, List.getElem?_cons_zero, List.getElem?_cons_succ, List.cons_append, List.nil_append] at h413
                          have h414 : St B w0 _ _ := St.mpick (N := [mapR kvI (D60.at L) [] mw0_2_26 x_401]) (N' := []) h413 [] (by decide) rfl
                          subst r
                          refine RetOk.mk (.tmp_bool rfl .nil) ?_
                          obtain ⟨CF, hx1, hx2⟩ := hFr
                          subst hx1
                          have hdr := St.dropC (N := []) h414
                          exact ⟨rfl, hdr⟩
                        ·
                          replace hR := ifF hR hc412
                          refine Plan.cmpV (a := (x_387 : Int)) (b := (((max most1 (w64 (-(w64 (most1 + 1))))).tmod 40) : Int)) (p := x_387 = ((max most1 (w64 (-(w64 (most1 + 1))))).tmod 40)) (v := false) rfl rfl rfl rfl icmp_eq (decide_eq_false hc412) ?_
                          refine Plan.pickTb rfl rfl rfl ?_
                          refine Plan.move_bool rfl rfl ?_
                          refine Plan.passed rfl ?_
                          refine Plan.passed rfl ?_
                          refine Plan.pickFb rfl rfl rfl ?_
                          refine Plan.assign_bool rfl rfl ?_
                          refine Plan.nil ?_
                          refine hK407 _ _ ?_; clear hK407
                          refine W.ret (finR_ret ?_)
                          have h415 := St.pickT (C := [_, _, _, _, _]) h406 [] (by decide)
                          simp only [pick, List.filterMap_cons, List.filterMap_nil, List.getElem?_cons_zero, List.getElem?_cons_succ, List.cons_append, List.nil_append] at h415
                          have h416 : St B w0 _ _ := St.mpick (N := [mapR kvI (D60.at L) [] mw0_2_26 x_401]) (N' := []) h415 [] (by decide) rfl
                          subst r
                          refine RetOk.mk (.tmp_bool rfl .nil) ?_
                          obtain ⟨CF, hx1, hx2⟩ := hFr
                          subst hx1
                          have hdr := St.dropC (N := []) h416
                          exact ⟨rfl, hdr⟩
                      ·
                        replace hR := ifF hR hc411
                        refine Plan.cmpV (a := (((x_388 : Nat) : Int) : Int)) (b := (0 : Int)) (p := x_388 = 0) (v := false) rfl rfl rfl rfl icmp_eqN (decide_eq_false hc411) ?_
                        refine Plan.pickTb rfl rfl rfl ?_
                        refine Plan.move_bool rfl rfl ?_
                        refine Plan.passed rfl ?_
                        refine Plan.passed rfl ?_
                        refine Plan.passed rfl ?_
                        refine Plan.pickFb rfl rfl rfl ?_
                        refine Plan.move_bool rfl rfl ?_
                        refine Plan.passed rfl ?_
                        refine Plan.passed rfl ?_
                        refine Plan.pickFb rfl rfl rfl ?_
                        refine Plan.assign_bool rfl rfl ?_
                        refine Plan.nil ?_
                        refine hK407 _ _ ?_; clear hK407
                        refine W.ret (finR_ret ?_)
                        have h417 := St.pickT (C := [_, _, _, _, _]) h406 [] (by decide)
                        simp only [pick, List.filterMap_cons, List.filterMap_nil, List.getElem?_cons_zero, List.getElem?_cons_succ, List.cons_append, List.nil_append] at h417
                        have h418 : St B w0 _ _ := St.mpick (N := [mapR kvI (D60.at L) [] mw0_2_26 x_401]) (N' := []) h417 [] (by decide) rfl
                        subst r
                        refine RetOk.mk (.tmp_bool rfl .nil) ?_
                        obtain ⟨CF, hx1, hx2⟩ := hFr
                        subst hx1
                        have hdr := St.dropC (N := []) h418
                        exact ⟨rfl, hdr⟩
                    ·
                      replace hR := ifF hR hc410
                      refine Plan.cmpV (a := (((x_378 : Nat) : Int) : Int)) (b := (0 : Int)) (p := x_378 = 0) (v := false) rfl rfl rfl rfl icmp_eqN (decide_eq_false hc410) ?_
                      refine Plan.pickTb rfl rfl rfl ?_
                      refine Plan.move_bool rfl rfl ?_
                      refine Plan.passed rfl ?_
                      refine Plan.passed rfl ?_
                      refine Plan.pickFb rfl rfl rfl ?_
                      refine Plan.move_bool rfl rfl ?_
                      refine Plan.passed rfl ?_
                      refine Plan.passed rfl ?_
                      refine Plan.passed rfl ?_
                      refine Plan.pickFb rfl rfl rfl ?_
                      refine Plan.move_bool rfl rfl ?_
                      refine Plan.passed rfl ?_
                      refine Plan.passed rfl ?_
                      refine Plan.pickFb rfl rfl rfl ?_
                      refine Plan.assign_bool rfl rfl ?_
                      refine Plan.nil ?_
                      refine hK407 _ _ ?_; clear hK407
                      refine W.ret (finR_ret ?_)
                      have h419 := St.pickT (C := [_, _, _, _, _]) h406 [] (by decide)
                      simp only [pick, List.filterMap_cons, List.filterMap_nil, List.getElem?_cons_zero, List.getElem?_cons_succ, List.cons_append, List.nil_append] at h419
                      have h420 : St B w0 _ _ := St.mpick (N := [mapR kvI (D60.at L) [] mw0_2_26 x_401]) (N' := []) h419 [] (by decide) rfl
                      subst r
                      refine RetOk.mk (.tmp_bool rfl .nil) ?_
                      obtain ⟨CF, hx1, hx2⟩ := hFr
                      subst hx1
                      have hdr := St.dropC (N := []) h420
                      exact ⟨rfl, hdr⟩
                  ·
                    replace hR := ifF hR hc409
                    refine Plan.cmpV (a := (((x_368 : Nat) : Int) : Int)) (b := (230 : Int)) (p := x_368 = 230) (v := false) rfl rfl rfl rfl icmp_eqN (decide_eq_false hc409) ?_
                    refine Plan.pickTb rfl rfl rfl ?_
                    refine Plan.move_bool rfl rfl ?_
                    refine Plan.passed rfl ?_
                    refine Plan.passed rfl ?_
                    refine Plan.pickFb rfl rfl rfl ?_
                    refine Plan.move_bool rfl rfl ?_
                    refine Plan.passed rfl ?_
                    refine Plan.passed rfl ?_
                    refine Plan.pickFb rfl rfl rfl ?_
                    refine Plan.move_bool rfl rfl ?_
                    refine Plan.passed rfl ?_
                    refine Plan.passed rfl ?_
                    refine Plan.passed rfl ?_
                    refine Plan.pickFb rfl rfl rfl ?_
                    refine Plan.move_bool rfl rfl ?_
                    refine Plan.passed rfl ?_
                    refine Plan.passed rfl ?_
                    refine Plan.pickFb rfl rfl rfl ?_
                    refine Plan.assign_bool rfl rfl ?_
                    refine Plan.nil ?_
                    refine hK407 _ _ ?_; clear hK407
                    refine W.ret (finR_ret ?_)
                    have h421 := St.pickT (C := [_, _, _, _, _]) h406 [] (by decide)
                    simp only [pick, List.filterMap_cons, List.filterMap_nil, List.getElem?_cons_zero, List.getElem?_cons_succ, List.cons_append, List.nil_append] at h421
                    have h422 : St B w0 _ _ := St.mpick (N := [mapR kvI (D60.at L) [] mw0_2_26 x_401]) (N' := []) h421 [] (by decide) rfl
                    subst r
                    refine RetOk.mk (.tmp_bool rfl .nil) ?_
                    obtain ⟨CF, hx1, hx2⟩ := hFr
                    subst hx1
                    have hdr := St.dropC (N := []) h422
                    exact ⟨rfl, hdr⟩
                ·
                  replace hR := ifF hR hc408
                  refine Plan.cmpV (a := (((x_357 : Nat) : Int) : Int)) (b := (231 : Int)) (p := x_357 = 231) (v := false) rfl rfl rfl rfl icmp_eqN (decide_eq_false hc408) ?_
                  refine Plan.move_bool rfl rfl ?_
                  refine Plan.passed rfl ?_
                  refine Plan.passed rfl ?_
                  refine Plan.pickFb rfl rfl rfl ?_
                  refine Plan.move_bool rfl rfl ?_
                  refine Plan.passed rfl ?_
                  refine Plan.passed rfl ?_
                  refine Plan.pickFb rfl rfl rfl ?_
                  refine Plan.move_bool rfl rfl ?_
                  refine Plan.passed rfl ?_
                  refine Plan.passed rfl ?_
                  refine Plan.pickFb rfl rfl rfl ?_
                  refine Plan.move_bool rfl rfl ?_
                  refine Plan.passed rfl ?_
                  refine Plan.passed rfl ?_
                  refine Plan.passed rfl ?_
                  refine Plan.pickFb rfl rfl rfl ?_
                  refine Plan.move_bool rfl rfl ?_
                  refine Plan.passed rfl ?_
                  refine Plan.passed rfl ?_
                  refine Plan.pickFb rfl rfl rfl ?_
                  refine Plan.assign_bool rfl rfl ?_
                  refine Plan.nil ?_
                  refine hK407 _ _ ?_; clear hK407
                  refine W.ret (finR_ret ?_)
                  have h423 := St.pickT (C := [_, _, _, _, _]) h406 [] (by decide)
                  simp only [pick, List.filterMap_cons, List.filterMap_nil, List.getElem?_cons_zero, List.getElem?_cons_succ, List.cons_append, List.nil_append] at h423
                  have h424 : St B w0 _ _ := St.mpick (N := [mapR kvI (D60.at L) [] mw0_2_26 x_401]) (N' := []) h423 [] (by decide) rfl
                  subst r
                  refine RetOk.mk (.tmp_bool rfl .nil) ?_
                  obtain ⟨CF, hx1, hx2⟩ := hFr
                  subst hx1
                  have hdr := St.dropC (N := []) h424
                  exact ⟨rfl, hdr⟩

end Go.Proofs.Ytbkgblhmlenocaa
