/-
  WALKS of the package's functions, printed by this session's own program (auto.py).
-/
import Derived.Test.YtbkgblhmlenocaaProg
import Derived.Test.YtbkgblhmlenocaaEb
import Derived.Test.YtbkgblhmlenocaaRLaw11
import Derived.Test.YtbkgblhmlenocaaEls
namespace Go.Proofs.Ytbkgblhmlenocaa
set_option linter.unusedSimpArgs false
set_option linter.unusedVariables false
set_option linter.unusedSectionVars false
open Go Go.LW
theorem FLaw11.isl22 : ∃ el, Try.prog.underlying 22 = some (.slice el) := ⟨25, by kernel_rfl⟩
theorem FLaw11.sl22 : slB Try.prog 22 3 = true := by kernel_rfl
theorem FLaw11.agg25 : aggT Try.prog 25 3 = true := by kernel_rfl
theorem FLaw11.z25 : zeroIs Try.prog 25 [(1, fun _ => .int .i64 0), (1, fun _ => .slice none 0 0), (1, fun _ => .slice none 0 0)] := zeroIs_agg (by kernel_rfl)
theorem FLaw11.fld25_0 : fieldB Try.prog 25 0 0 = true := by kernel_rfl
theorem FLaw11.sc3 : scalarT Try.prog 3 = true := by kernel_rfl
theorem FLaw11.call55 : callB Try.prog 55 = true := by kernel_rfl
theorem FLaw11.sz3 : szT Try.prog 3 1 = true := by kernel_rfl
theorem FLaw11.fld25_1 : fieldB Try.prog 25 1 1 = true := by kernel_rfl
theorem FLaw11.sc23 : scalarT Try.prog 23 = true := by kernel_rfl
theorem FLaw11.isl23 : ∃ el, Try.prog.underlying 23 = some (.slice el) := ⟨5, by kernel_rfl⟩
theorem FLaw11.zv5 : (Try.prog.info? 5).bind (·.zero) = some (VU .u8 0#8) := by kernel_rfl
theorem FLaw11.slu23 : Try.prog.underlying 23 = some (.slice 5) := by kernel_rfl
theorem FLaw11.sz5 : szT Try.prog 5 1 = true := by kernel_rfl
theorem FLaw11.sz23 : szT Try.prog 23 1 = true := by kernel_rfl
theorem FLaw11.sl23 : slB Try.prog 23 1 = true := by kernel_rfl
theorem FLaw11.fld25_2 : fieldB Try.prog 25 2 2 = true := by kernel_rfl
theorem FLaw11.sz25 : szT Try.prog 25 3 = true := by kernel_rfl
theorem FLaw11.call15 : callB Try.prog 15 = true := by kernel_rfl
theorem FLaw11.zv25 : (Try.prog.info? 25).bind (·.zero) = some (AG [(1, fun _ => .int .i64 0), (1, fun _ => .slice none 0 0), (1, fun _ => .slice none 0 0)]) := by kernel_rfl
theorem FLaw11.slu22 : Try.prog.underlying 22 = some (.slice 25) := by kernel_rfl
theorem FLaw11.el22 : elD Try.prog 22 = some (3, 56, some (AG [(1, fun _ => .int .i64 0), (1, fun _ => .slice none 0 0), (1, fun _ => .slice none 0 0)])) := by kernel_rfl
theorem FLaw11.mixed : Try.prog.follows .mixedOrders = true := by kernel_rfl
theorem FLaw11.u5 : Try.prog.underlying 5 = some (.int .u8) := by kernel_rfl
theorem FLaw11.str9 : Try.prog.underlying 9 = some .string := by kernel_rfl
theorem FLaw11.call18 : callB Try.prog 18 = true := by kernel_rfl
theorem FLaw11.isl43 : ∃ el, Try.prog.underlying 43 = some (.slice el) := ⟨3, by kernel_rfl⟩
theorem FLaw11.sl43 : slB Try.prog 43 1 = true := by kernel_rfl
theorem FLaw11.call17 : callB Try.prog 17 = true := by kernel_rfl

set_option maxRecDepth 8000 in
set_option maxHeartbeats 1000000 in
theorem lethelaw11_rest_ok {B : Nat} {w0 w : World} {L : List Rg} {n_1 : Int} {m2 : Int} {r : Int} (hR : lethelaw11_rest n_1 m2 r) (HST : St B w0 (L) w) :
    Calls Try.prog 55 #[.int .i64 n_1, .int .i64 m2] w fun e w' => e = .returned (.int .i64 r) ∧ St B w0 (L) w' := by
  refine W.enter 12 Try.func55 rfl rfl rfl ?_
  unfold lethelaw11_rest at hR
  refine W.seq_k fun K3 hK3 => ?_
  refine W.regionT [(0, true)] (by kernel_rfl) ?_
  refine Plan.assign_int rfl rfl ?_
  refine Plan.nil ?_
  refine hK3 _ _ ?_; clear hK3
  refine W.seq_k fun K4 hK4 => ?_
  refine W.regionT [(0, true), (1, true), (2, true), (3, true), (4, true), (5, true), (6, true), (7, true)] (by kernel_rfl) ?_
  refine Plan.move_int rfl rfl ?_
  refine Plan.move_int rfl rfl ?_
  obtain ⟨hc5, hR⟩ := hR
  refine Plan.remI (a := n_1) (b := m2) rfl rfl rfl hc5 ?_
  refine Plan.move_int rfl rfl ?_
  obtain ⟨hc6, hR⟩ := hR
  refine Plan.addI (a := (n_1.tmod m2)) (b := m2) rfl rfl rfl (by omega) ?_
  refine Plan.move_int rfl rfl ?_
  obtain ⟨hc7, hR⟩ := hR
  refine Plan.remI (a := ((n_1.tmod m2) + m2)) (b := m2) rfl rfl rfl hc7 ?_
  refine Plan.assign_int rfl rfl ?_
  refine Plan.nil ?_
  refine hK4 _ _ ?_; clear hK4
  refine W.ret (finR_ret ?_)
  subst r
  refine RetOk.mk (.tmp_int rfl .nil) ?_
  exact ⟨rfl, HST⟩


set_option maxRecDepth 8000 in
set_option maxHeartbeats 1000000 in
theorem lethelaw11_right_ok {B : Nat} {w0 w : World} {L : List Rg} {LP : List Rg} (hLP : ∀ r ∈ LP, r ∈ L) {rTable1 : Int} {rKey2 : List Byte} {arKey2 : Option Addr} {nrKey2 crKey2 : Nat} (qrKey2 : ∃ i, Bx LP i arKey2 nrKey2 crKey2 rKey2) {rValue3 : List Byte} {arValue3 : Option Addr} {nrValue3 crValue3 : Nat} (qrValue3 : ∃ i, Bx LP i arValue3 nrValue3 crValue3 rValue3) {r : (Int × (List Byte) × (List Byte))} (hR : lethelaw11_right rTable1 rKey2 rValue3 r) (HST : St B w0 (L) w) :
    Calls Try.prog 15 #[AG [(1, fun _ => .int .i64 rTable1), (1, fun _ => .slice arKey2 nrKey2 crKey2), (1, fun _ => .slice arValue3 nrValue3 crValue3)]] w fun e w' => ∃ C : List Rg, ∃ iy0_1 : Nat, ∃ ay0_1 : Option Addr, ∃ cy0_1 : Nat, ∃ iy0_2 : Nat, ∃ ay0_2 : Option Addr, ∃ cy0_2 : Nat, e = .returned (AG [(1, fun _ => .int .i64 r.1), (1, fun _ => .slice ay0_1 r.2.1.length cy0_1), (1, fun _ => .slice ay0_2 r.2.2.length cy0_2)]) ∧ St B w0 ((C ++ L)) w' ∧ Bx (C ++ LP) iy0_1 ay0_1 r.2.1.length cy0_1 r.2.1 ∧ Bx (C ++ LP) iy0_2 ay0_2 r.2.2.length cy0_2 r.2.2 := by
  refine W.enter 30 Try.func15 rfl rfl rfl ?_
  unfold lethelaw11_right at hR
  have hFr : Fr2 L LP L LP := Fr2.refl _ _
  have erKey2 := qrKey2.choose_spec.hl; subst erKey2
  obtain ⟨irKey2, hrKey2⟩ := Bx.lift qrKey2.choose_spec hLP
  have erValue3 := qrValue3.choose_spec.hl; subst erValue3
  obtain ⟨irValue3, hrValue3⟩ := Bx.lift qrValue3.choose_spec hLP
  refine W.seq_k fun K4 hK4 => ?_
  refine W.regionT [(0, false), (1, false)] (by kernel_rfl) ?_
  refine Plan.boxA HST rfl rfl PIn.nil fun b5 w5 hb5 h5 => ?_
  simp only [rngs, Nat.zero_add, Nat.reduceAdd, List.cons_append, List.nil_append] at h5
  refine Plan.alloc h5 rfl FLaw11.z25 PIn.nil fun b6 w6 hb6 h6 => ?_
  simp only [rngs, Nat.zero_add, Nat.reduceAdd, List.cons_append, List.nil_append] at h6
  refine Plan.nil ?_
  refine hK4 _ _ ?_; clear hK4
  refine W.seq_k fun K7 hK7 => ?_
  refine W.regionT [(0, true), (1, true), (2, false), (3, true), (4, false)] (by kernel_rfl) ?_
  refine Plan.fieldAddr0 FLaw11.fld25_0 rfl rfl ?_
  refine Plan.load0 h6 3 rfl rfl rfl (by omega) FLaw11.sc3 ?_
  obtain ⟨x_9, hr8, hR⟩ := hR
  refine Plan.call (vs := [.int .i64 rTable1, VN 16]) rfl FLaw11.call55 rfl (lethelaw11_rest_ok  hr8 h6) ?_
  rintro _ w10 ⟨rfl, h10⟩
  refine ⟨_, rfl, .inr ⟨rfl, ?_⟩⟩
  refine Plan.fieldAddr0 FLaw11.fld25_0 rfl rfl ?_
  refine Plan.storeC_int h10 3 rfl rfl rfl rfl FLaw11.sz3 rfl fun w11 h11 => ?_
  simp only [List.cons_append, List.nil_append, List.set_cons_zero, List.set_cons_succ] at h11
  refine Plan.nil ?_
  refine hK7 _ _ ?_; clear hK7
  refine W.seq_k fun K12 hK12 => ?_
  have hFj18 : Fr2 L LP L LP := Fr2.refl _ _
  obtain ⟨m17, hX18, hR018⟩ := hR
  refine W.cutN (fun e w => ∃ y_m17 : List Byte, (m17 = y_m17) ∧ ∃ CG LG : List Rg, LG = CG ++ L ∧ ∃ QG : List Rg, QG = CG ++ LP ∧ ∃ L : List Rg, L = LG ∧ ∃ LP : List Rg, LP = QG ∧ (∀ r ∈ LP, r ∈ L) ∧ ∃ im17 : Nat, ∃ am17 : Option Addr, ∃ cm17 : Nat, EnvHas e [(1, .pointer (some ⟨b5, 0, none⟩)), (2, .pointer (some ⟨b6, 0, none⟩))] ∧ St B w0 (⟨some b6, 0, 1, fun _ => VN 0, true⟩ :: ⟨some b6, 1, 1, fun _ => .slice none 0 0, true⟩ :: ⟨some b6, 2, 1, fun _ => .slice none 0 0, true⟩ :: ⟨some b5, 0, 1, fun _ => .int .i64 x_9, true⟩ :: ⟨some b5, 1, 1, fun _ => .slice am17 y_m17.length cm17, true⟩ :: ⟨some b5, 2, 1, fun _ => .slice arValue3 rValue3.length crValue3, true⟩ :: L) w ∧ Bx L im17 am17 y_m17.length cm17 y_m17 ∧ ∃ i, Bx LP i am17 y_m17.length cm17 y_m17) ?_ ?_
  ·
    replace hR := hX18
    refine W.seq_k fun K19 hK19 => ?_
    refine W.regionT [(0, true), (1, true), (2, true), (3, true)] (by kernel_rfl) ?_
    refine Plan.fieldAddr 1 FLaw11.fld25_1 rfl rfl ?_
    refine Plan.load0 h11 4 rfl rfl rfl (by omega) FLaw11.sc23 ?_
    refine Plan.len FLaw11.isl23 rfl rfl ?_
    refine Plan.cmpP (a := (((rKey2.length : Nat) : Int) : Int)) (b := (0 : Int)) (p := rKey2.length = 0) rfl rfl rfl rfl icmp_eqN ?_
    refine Plan.nil ?_
    refine hK19 _ _ ?_; clear hK19
    by_cases hc20 : rKey2.length = 0
    ·
      replace hR := ifT hR hc20
      refine W.condT (congrArg Value.bool (decide_eq_true hc20)) ?_
      refine W.regionT [(0, false), (1, true), (2, false)] (by kernel_rfl) ?_
      refine Plan.buildSlice h11 (ps := [(1, fun q => VU .u8 (lit ([0#8] : List Byte) q))]) FLaw11.slu23 FLaw11.sz5 FLaw11.zv5 (by decide) (by decide) rfl rfl (by kernel_rfl) (EffO.keep PIn.nil) fun b21 w21 hb21 h21 => ?_
      simp only [rngs, List.cons_append, List.nil_append] at h21
      have ho21 : Ow (some ⟨b21, 0, none⟩) (some b21) ([0#8] : List Byte).length 1 (lit ([0#8] : List Byte)) ([0#8] : List Byte) := ⟨.inr ⟨b21, rfl, rfl⟩, Nat.le_refl _, rfl, fun q _ => rfl⟩
      refine Plan.fieldAddr 1 FLaw11.fld25_1 rfl rfl ?_
      refine Plan.storeC h21 5 rfl rfl rfl rfl rfl FLaw11.sz23 rfl fun w22 h22 => ?_
      simp only [List.cons_append, List.nil_append, List.set_cons_zero, List.set_cons_succ] at h22
      refine Plan.nil ?_
      have h23 := St.pickT (C := [_, _, _, _, _, _, _]) h22 [1, 2, 3, 4, 5, 6, 0] (by decide)
      simp only [pick, List.filterMap_cons, List.filterMap_nil, List.getElem?_cons_zero, List.getElem?_cons_succ, List.cons_append, List.nil_append] at h23
      obtain ⟨L, hL24⟩ : ∃ X, X = [⟨some b21, 0, 1, fun q => VU .u8 ((lit ([0#8] : List Byte)) q), true⟩] ++ L := ⟨_, rfl⟩
      obtain ⟨LP, hQ24⟩ : ∃ X, X = [⟨some b21, 0, 1, fun q => VU .u8 ((lit ([0#8] : List Byte)) q), true⟩] ++ LP := ⟨_, rfl⟩
      replace hLP : ∀ r ∈ LP, r ∈ L := by rw [hQ24, hL24]; exact frMemGrow hLP
      have h24 := St.re (N := [_, _, _, _, _, _]) hL24 h23
      simp only [List.cons_append, List.nil_append] at h24
      replace hFr : Fr2 _ _ L LP := hFr.step hL24 hQ24
      replace hFj18 : Fr2 _ _ L LP := hFj18.step hL24 hQ24
      obtain ⟨ix25, hv25⟩ : ∃ i, Bx L i arKey2 rKey2.length crKey2 rKey2 := ⟨_, by rw [hL24]; exact hrKey2.app _⟩
      have hp25 : ∃ i, Bx LP i arKey2 rKey2.length crKey2 rKey2 := by rw [hQ24]; exact ⟨_, qrKey2.choose_spec.app _⟩
      obtain ⟨ix26, hv26⟩ : ∃ i, Bx L i arValue3 rValue3.length crValue3 rValue3 := ⟨_, by rw [hL24]; exact hrValue3.app _⟩
      have hp26 : ∃ i, Bx LP i arValue3 rValue3.length crValue3 rValue3 := by rw [hQ24]; exact ⟨_, qrValue3.choose_spec.app _⟩
      have hv27 : Bx L 0 (some ⟨b21, 0, none⟩) (([0#8] : List Byte).length) 1 ([0#8] : List Byte) := by rw [hL24]; exact (ho21.bx 0 rfl)
      have hp27 : ∃ i, Bx LP i (some ⟨b21, 0, none⟩) (([0#8] : List Byte).length) 1 ([0#8] : List Byte) := ⟨0, by rw [hQ24]; exact (ho21.bx 0 rfl)⟩
      obtain ⟨CF28, hx28, hy28⟩ := hFj18
      exact ⟨([0#8] : List Byte), hR, CF28, L, hx28, LP, hy28, L, rfl, LP, rfl, hLP, 0, some ⟨b21, 0, none⟩, 1, (EnvHas.cons rfl (EnvHas.cons rfl EnvHas.nil)), h24, hv27, hp27⟩
    ·
      replace hR := ifF hR hc20
      refine W.condF (congrArg Value.bool (decide_eq_false hc20)) ?_
      refine W.skip ?_
      obtain ⟨CF29, hx29, hy29⟩ := hFj18
      exact ⟨rKey2, hR, CF29, L, hx29, LP, hy29, L, rfl, LP, rfl, hLP, irKey2, arKey2, crKey2, (EnvHas.cons rfl (EnvHas.cons rfl EnvHas.nil)), h11, hrKey2, qrKey2⟩
  ·
    rintro ev30 wl30 ⟨y_m17, hy30_0, CG30, LG30, hlg30, QG30, hqg30, L, hLe30, LP, hQe30, hLPn30, im17, am17, cm17, he30, h30, hm17, hpm17⟩
    subst hy30_0
    obtain ⟨ev30, rfl⟩ := he30.open
    replace hR := hR018
    have hL30 := hLe30.trans hlg30
    have hQ30 := hQe30.trans hqg30
    replace hLP : ∀ r ∈ LP, r ∈ L := by rw [hQ30, hL30]; exact frMemGrow hLP
    replace hFr : Fr2 _ _ L LP := hFr.step hL30 hQ30
    replace hFj18 : Fr2 _ _ L LP := hFj18.step hL30 hQ30
    obtain ⟨ix32, hv32⟩ : ∃ i, Bx L i arValue3 rValue3.length crValue3 rValue3 := ⟨_, by rw [hL30]; exact hrValue3.app _⟩
    have hp32 : ∃ i, Bx LP i arValue3 rValue3.length crValue3 rValue3 := by rw [hQ30]; exact ⟨_, qrValue3.choose_spec.app _⟩
    refine hK12 _ _ ?_; clear hK12
    refine W.seq_k fun K33 hK33 => ?_
    obtain ⟨m39, hX40, hR040⟩ := hR
    refine W.cutN (fun e w => ∃ y_m39 : List Byte, (m39 = y_m39) ∧ ∃ im39 : Nat, ∃ am39 : Option Addr, ∃ cm39 : Nat, EnvHas e [(1, .pointer (some ⟨b5, 0, none⟩)), (2, .pointer (some ⟨b6, 0, none⟩))] ∧ St B w0 (⟨some b6, 0, 1, fun _ => VN 0, true⟩ :: ⟨some b6, 1, 1, fun _ => .slice none 0 0, true⟩ :: ⟨some b6, 2, 1, fun _ => .slice none 0 0, true⟩ :: ⟨some b5, 0, 1, fun _ => .int .i64 x_9, true⟩ :: ⟨some b5, 1, 1, fun _ => .slice am39 y_m39.length cm39, true⟩ :: ⟨some b5, 2, 1, fun _ => .slice arValue3 rValue3.length crValue3, true⟩ :: L) w ∧ Bx L im39 am39 y_m39.length cm39 y_m39 ∧ ∃ i, Bx LP i am39 y_m39.length cm39 y_m39) ?_ ?_
    ·
      replace hR := hX40
      refine W.seq_k fun K41 hK41 => ?_
      refine W.regionT [(0, true), (1, true), (2, true), (3, true)] (by kernel_rfl) ?_
      refine Plan.fieldAddr 1 FLaw11.fld25_1 rfl rfl ?_
      refine Plan.load0 h30 4 rfl rfl rfl (by omega) FLaw11.sc23 ?_
      refine Plan.len FLaw11.isl23 rfl rfl ?_
      refine Plan.cmpP (a := (((m17.length : Nat) : Int) : Int)) (b := (64 : Int)) (p := 64 < m17.length) rfl rfl rfl rfl icmp_gtN ?_
      refine Plan.nil ?_
      refine hK41 _ _ ?_; clear hK41
      by_cases hc42 : 64 < m17.length
      ·
        replace hR := ifT hR hc42
        refine W.condT (congrArg Value.bool (decide_eq_true hc42)) ?_
        refine W.regionT [(0, true), (1, true), (2, true), (3, true), (4, false)] (by kernel_rfl) ?_
        refine Plan.fieldAddr 1 FLaw11.fld25_1 rfl rfl ?_
        refine Plan.load0 h30 4 rfl rfl rfl (by omega) FLaw11.sc23 ?_
        obtain ⟨hc43, hR⟩ := hR
        refine Plan.slVp (lo := 0) (hi := 64) hm17 hpm17 FLaw11.sl23 rfl rfl rfl ⟨_, rfl⟩ hc43 fun a44 c44 hv44 hp44 => ?_
        refine Plan.fieldAddr 1 FLaw11.fld25_1 rfl rfl ?_
        refine Plan.storeC h30 4 rfl rfl rfl rfl rfl FLaw11.sz23 rfl fun w45 h45 => ?_
        simp only [List.cons_append, List.nil_append, List.set_cons_zero, List.set_cons_succ] at h45
        refine Plan.nil ?_
        exact ⟨(seg m17 0 64), hR, im17, a44, c44, (EnvHas.cons rfl (EnvHas.cons rfl EnvHas.nil)), h45, hv44, hp44⟩
      ·
        replace hR := ifF hR hc42
        refine W.condF (congrArg Value.bool (decide_eq_false hc42)) ?_
        refine W.skip ?_
        exact ⟨m17, hR, im17, am17, cm17, (EnvHas.cons rfl (EnvHas.cons rfl EnvHas.nil)), h30, hm17, hpm17⟩
    ·
      rintro ev46 wl46 ⟨y_m39, hy46_0, im39, am39, cm39, he46, h46, hm39, hpm39⟩
      subst hy46_0
      obtain ⟨ev46, rfl⟩ := he46.open
      replace hR := hR040
      refine hK33 _ _ ?_; clear hK33
      refine W.seq_k fun K47 hK47 => ?_
      obtain ⟨m53, hX54, hR054⟩ := hR
      refine W.cutN (fun e w => ∃ y_m53 : List Byte, (m53 = y_m53) ∧ ∃ im53 : Nat, ∃ am53 : Option Addr, ∃ cm53 : Nat, EnvHas e [(1, .pointer (some ⟨b5, 0, none⟩)), (2, .pointer (some ⟨b6, 0, none⟩))] ∧ St B w0 (⟨some b6, 0, 1, fun _ => VN 0, true⟩ :: ⟨some b6, 1, 1, fun _ => .slice none 0 0, true⟩ :: ⟨some b6, 2, 1, fun _ => .slice none 0 0, true⟩ :: ⟨some b5, 0, 1, fun _ => .int .i64 x_9, true⟩ :: ⟨some b5, 1, 1, fun _ => .slice am39 m39.length cm39, true⟩ :: ⟨some b5, 2, 1, fun _ => .slice am53 y_m53.length cm53, true⟩ :: L) w ∧ Bx L im53 am53 y_m53.length cm53 y_m53 ∧ ∃ i, Bx LP i am53 y_m53.length cm53 y_m53) ?_ ?_
      ·
        replace hR := hX54
        refine W.seq_k fun K55 hK55 => ?_
        refine W.regionT [(0, true), (1, true), (2, true), (3, true)] (by kernel_rfl) ?_
        refine Plan.fieldAddr 2 FLaw11.fld25_2 rfl rfl ?_
        refine Plan.load0 h46 5 rfl rfl rfl (by omega) FLaw11.sc23 ?_
        refine Plan.len FLaw11.isl23 rfl rfl ?_
        refine Plan.cmpP (a := (((rValue3.length : Nat) : Int) : Int)) (b := (900 : Int)) (p := 900 < rValue3.length) rfl rfl rfl rfl icmp_gtN ?_
        refine Plan.nil ?_
        refine hK55 _ _ ?_; clear hK55
        by_cases hc56 : 900 < rValue3.length
        ·
          replace hR := ifT hR hc56
          refine W.condT (congrArg Value.bool (decide_eq_true hc56)) ?_
          refine W.regionT [(0, true), (1, true), (2, true), (3, true), (4, false)] (by kernel_rfl) ?_
          refine Plan.fieldAddr 2 FLaw11.fld25_2 rfl rfl ?_
          refine Plan.load0 h46 5 rfl rfl rfl (by omega) FLaw11.sc23 ?_
          obtain ⟨hc57, hR⟩ := hR
          refine Plan.slVp (lo := 0) (hi := 900) hv32 hp32 FLaw11.sl23 rfl rfl rfl ⟨_, rfl⟩ hc57 fun a58 c58 hv58 hp58 => ?_
          refine Plan.fieldAddr 2 FLaw11.fld25_2 rfl rfl ?_
          refine Plan.storeC h46 5 rfl rfl rfl rfl rfl FLaw11.sz23 rfl fun w59 h59 => ?_
          simp only [List.cons_append, List.nil_append, List.set_cons_zero, List.set_cons_succ] at h59
          refine Plan.nil ?_
          exact ⟨(seg rValue3 0 900), hR, ix32, a58, c58, (EnvHas.cons rfl (EnvHas.cons rfl EnvHas.nil)), h59, hv58, hp58⟩
        ·
          replace hR := ifF hR hc56
          refine W.condF (congrArg Value.bool (decide_eq_false hc56)) ?_
          refine W.skip ?_
          exact ⟨rValue3, hR, ix32, arValue3, crValue3, (EnvHas.cons rfl (EnvHas.cons rfl EnvHas.nil)), h46, hv32, hp32⟩
      ·
        rintro ev60 wl60 ⟨y_m53, hy60_0, im53, am53, cm53, he60, h60, hm53, hpm53⟩
        subst hy60_0
        obtain ⟨ev60, rfl⟩ := he60.open
        replace hR := hR054
        refine hK47 _ _ ?_; clear hK47
        refine W.seq_k fun K61 hK61 => ?_
        refine W.regionT [(0, true), (1, false)] (by kernel_rfl) ?_
        refine Plan.loadA h60 rfl rfl (.cons 3 rfl (.cons 4 rfl (.cons 5 rfl .nil))) FLaw11.agg25 ?_
        refine Plan.storeP (ps := [(1, fun _ => .int .i64 x_9), (1, fun _ => .slice am39 m39.length cm39), (1, fun _ => .slice am53 m53.length cm53)]) h60 rfl rfl rfl (.cons 0 rfl (.cons 1 rfl (.cons 2 rfl .nil))) ⟨fun _ _ => rfl, fun _ _ => rfl, fun _ _ => rfl, trivial⟩ FLaw11.sz25 (EffO.wait rfl) fun w62 h62 => ?_
        simp only [List.cons_append, List.nil_append, List.set_cons_zero, List.set_cons_succ] at h62
        refine Plan.nil ?_
        refine hK61 _ _ ?_; clear hK61
        refine W.ret (finR_ret ?_)
        obtain ⟨iz63, hz63⟩ : ∃ i, Bx LP i _ _ _ _ := hpm39
        obtain ⟨iz64, hz64⟩ : ∃ i, Bx LP i _ _ _ _ := hpm53
        have h65 := St.pickT (C := [_, _, _, _, _, _]) h62 [] (by decide)
        simp only [pick, List.filterMap_cons, List.filterMap_nil, List.getElem?_cons_zero, List.getElem?_cons_succ, List.cons_append, List.nil_append] at h65
        subst r
        refine RetOk.mk (.agg h62 rfl (.cons 0 rfl (.cons 1 rfl (.cons 2 rfl .nil))) FLaw11.agg25 .nil) ?_
        obtain ⟨CF, hx1, hx2⟩ := hFr
        subst hx1
        subst hx2
        exact ⟨_, iz63, am39, cm39, iz64, am53, cm53, rfl, h65, hz63, hz64⟩


set_option maxRecDepth 8000 in
set_option maxHeartbeats 1000000 in
theorem lethelaw11_ahead_ok {B : Nat} {w0 w : World} {L : List Rg} {aTable1 : Int} {aKey2 : List Byte} {aaKey2 : Option Addr} {naKey2 caKey2 iaKey2 : Nat} (haKey2 : Bx L iaKey2 aaKey2 naKey2 caKey2 aKey2) {aValue3 : List Byte} {aaValue3 : Option Addr} {naValue3 caValue3 iaValue3 : Nat} (haValue3 : Bx L iaValue3 aaValue3 naValue3 caValue3 aValue3) {bTable4 : Int} {bKey5 : List Byte} {abKey5 : Option Addr} {nbKey5 cbKey5 ibKey5 : Nat} (hbKey5 : Bx L ibKey5 abKey5 nbKey5 cbKey5 bKey5) {bValue6 : List Byte} {abValue6 : Option Addr} {nbValue6 cbValue6 ibValue6 : Nat} (hbValue6 : Bx L ibValue6 abValue6 nbValue6 cbValue6 bValue6) {r : Bool} (hR : lethelaw11_ahead aTable1 aKey2 aValue3 bTable4 bKey5 bValue6 r) (HST : St B w0 (L) w) :
    Calls Try.prog 18 #[AG [(1, fun _ => .int .i64 aTable1), (1, fun _ => .slice aaKey2 naKey2 caKey2), (1, fun _ => .slice aaValue3 naValue3 caValue3)], AG [(1, fun _ => .int .i64 bTable4), (1, fun _ => .slice abKey5 nbKey5 cbKey5), (1, fun _ => .slice abValue6 nbValue6 cbValue6)]] w fun e w' => e = .returned (.bool r) ∧ St B w0 (L) w' := by
  refine W.enter 22 Try.func18 rfl rfl rfl ?_
  unfold lethelaw11_ahead at hR
  have eaKey2 := haKey2.hl; subst eaKey2
  have eaValue3 := haValue3.hl; subst eaValue3
  have ebKey5 := hbKey5.hl; subst ebKey5
  have ebValue6 := hbValue6.hl; subst ebValue6
  refine W.seq_k fun K7 hK7 => ?_
  refine W.regionT [(0, false), (1, false), (2, true)] (by kernel_rfl) ?_
  refine Plan.boxA HST rfl rfl PIn.nil fun b8 w8 hb8 h8 => ?_
  simp only [rngs, Nat.zero_add, Nat.reduceAdd, List.cons_append, List.nil_append] at h8
  refine Plan.boxA h8 rfl rfl PIn.nil fun b9 w9 hb9 h9 => ?_
  simp only [rngs, Nat.zero_add, Nat.reduceAdd, List.cons_append, List.nil_append] at h9
  refine Plan.assign_bool rfl rfl ?_
  refine Plan.nil ?_
  refine hK7 _ _ ?_; clear hK7
  refine W.seq_k fun K10 hK10 => ?_
  refine W.seq_k fun K11 hK11 => ?_
  refine W.regionT [(0, true), (1, true), (2, true), (3, true), (4, true)] (by kernel_rfl) ?_
  refine Plan.fieldAddr0 FLaw11.fld25_0 rfl rfl ?_
  refine Plan.load0 h9 3 rfl rfl rfl (by omega) FLaw11.sc3 ?_
  refine Plan.fieldAddr0 FLaw11.fld25_0 rfl rfl ?_
  refine Plan.load0 h9 0 rfl rfl rfl (by omega) FLaw11.sc3 ?_
  refine Plan.cmpP (a := (aTable1 : Int)) (b := (bTable4 : Int)) (p := aTable1 ≠ bTable4) rfl rfl rfl rfl icmp_ne ?_
  refine Plan.nil ?_
  refine hK11 _ _ ?_; clear hK11
  by_cases hc12 : aTable1 ≠ bTable4
  ·
    replace hR := ifT hR hc12
    refine W.condT (congrArg Value.bool (decide_eq_true hc12)) ?_
    refine W.seq_k fun K13 hK13 => ?_
    refine W.regionT [(0, true), (1, true), (2, true), (3, true), (4, true), (5, true)] (by kernel_rfl) ?_
    refine Plan.fieldAddr0 FLaw11.fld25_0 rfl rfl ?_
    refine Plan.load0 h9 3 rfl rfl rfl (by omega) FLaw11.sc3 ?_
    refine Plan.fieldAddr0 FLaw11.fld25_0 rfl rfl ?_
    refine Plan.load0 h9 0 rfl rfl rfl (by omega) FLaw11.sc3 ?_
    refine Plan.cmpP (a := (aTable1 : Int)) (b := (bTable4 : Int)) (p := aTable1 < bTable4) rfl rfl rfl rfl icmp_lt ?_
    refine Plan.assign_bool rfl rfl ?_
    refine Plan.nil ?_
    refine hK13 _ _ ?_; clear hK13
    refine W.ret (thenR_ret (finR_ret ?_))
    have h14 := St.pickT (C := [_, _, _, _, _, _]) h9 [] (by decide)
    simp only [pick, List.filterMap_cons, List.filterMap_nil, List.getElem?_cons_zero, List.getElem?_cons_succ, List.cons_append, List.nil_append] at h14
    subst r
    refine RetOk.mk (.tmp_bool rfl .nil) ?_
    exact ⟨rfl, h14⟩
  ·
    replace hR := ifF hR hc12
    refine W.condF (congrArg Value.bool (decide_eq_false hc12)) ?_
    refine W.skip ?_
    refine hK10 _ _ ?_; clear hK10
    refine W.seq_k fun K15 hK15 => ?_
    refine W.regionT [(0, true), (1, true), (2, true), (3, true), (4, true), (5, true), (6, true), (7, true)] (by kernel_rfl) ?_
    refine Plan.fieldAddr 1 FLaw11.fld25_1 rfl rfl ?_
    refine Plan.load0 h9 4 rfl rfl rfl (by omega) FLaw11.sc23 ?_
    refine Plan.toStrV h9 (haKey2.app [_, _, _, _, _, _]) FLaw11.slu23 FLaw11.u5 FLaw11.str9 rfl rfl fun r16 hr16 => ?_
    replace hr16 := or_un [_, _, _, _, _, _] hr16
    refine Plan.fieldAddr 1 FLaw11.fld25_1 rfl rfl ?_
    refine Plan.load0 h9 1 rfl rfl rfl (by omega) FLaw11.sc23 ?_
    refine Plan.toStrV h9 (hbKey5.app [_, _, _, _, _, _]) FLaw11.slu23 FLaw11.u5 FLaw11.str9 rfl rfl fun r17 hr17 => ?_
    replace hr17 := or_un [_, _, _, _, _, _] hr17
    refine Plan.ltStrV (v := decide (ltL aKey2 bKey5 = true)) rfl rfl rfl Bool.decide_eq_true.symm ?_
    refine Plan.assign_bool rfl rfl ?_
    refine Plan.nil ?_
    refine hK15 _ _ ?_; clear hK15
    refine W.ret (finR_ret ?_)
    have h18 := St.pickT (C := [_, _, _, _, _, _]) h9 [] (by decide)
    simp only [pick, List.filterMap_cons, List.filterMap_nil, List.getElem?_cons_zero, List.getElem?_cons_succ, List.cons_append, List.nil_append] at h18
    subst r
    refine RetOk.mk (.tmp_bool rfl .nil) ?_
    exact ⟨rfl, h18⟩


set_option maxRecDepth 8000 in
set_option maxHeartbeats 1000000 in
theorem lethelaw11_sorted_ok {B : Nat} {w0 w : World} {L : List Rg} {LP : List Rg} (hLP : ∀ r ∈ LP, r ∈ L) {l_1 : List (Int × (List Byte) × (List Byte))} {al_1 : Option Addr} {nl_1 cl_1 il_1 : Nat} (hl_1 : LV (D25.at LP) L il_1 al_1 nl_1 cl_1 l_1) {r : (List (Int × (List Byte) × (List Byte)))} (hR : lethelaw11_sorted l_1 r) (HST : St B w0 (L) w) :
    Calls Try.prog 14 #[.slice al_1 nl_1 cl_1] w fun e w' => ∃ C : List Rg, ∃ ay0 : Option Addr, ∃ py0 : Option Nat, ∃ ny0 : Nat, ∃ cy0 : Nat, ∃ Fy0 : Nat → Value, e = .returned (.slice ay0 ny0 cy0) ∧ St B w0 (⟨py0, 0, cy0 * 3, Fy0, true⟩ :: (C ++ L)) w' ∧ LO (D25.at (C ++ LP)) [] ay0 py0 ny0 cy0 Fy0 r := by
  refine W.enter 74 Try.func14 rfl rfl rfl ?_
  unfold lethelaw11_sorted at hR
  have hFr : Fr2 L LP L LP := Fr2.refl _ _
  have el_1 := hl_1.hl; subst el_1
  refine W.seq_k fun K2 hK2 => ?_
  refine W.regionT [(0, true)] (by kernel_rfl) ?_
  refine Plan.assign_slice rfl rfl ?_
  refine Plan.nil ?_
  refine hK2 _ _ ?_; clear hK2
  refine W.seq_k fun K3 hK3 => ?_
  refine W.regionT [(0, true)] (by kernel_rfl) ?_
  refine Plan.assign_slice rfl rfl ?_
  refine Plan.nil ?_
  refine hK3 _ _ ?_; clear hK3
  refine W.seq_k fun K4 hK4 => ?_
  refine W.seq_k fun K5 hK5 => ?_
  refine W.regionT [(0, true)] (by kernel_rfl) ?_
  refine Plan.assign_int rfl rfl ?_
  refine Plan.nil ?_
  refine hK5 _ _ ?_; clear hK5
  have hFj325 : Fr2 L LP L LP := Fr2.refl _ _
  have h326 : St B w0 (⟨none, 0, 0 * 3, fun _ => undef, true⟩ :: _) _ := HST.nilE (fun _ => undef)
  obtain ⟨out324, hI325, hR0325⟩ := hR
  refine W.cutN (fun e w => ∃ y_out324 : List (Int × (List Byte) × (List Byte)), out324 = y_out324 ∧ ∃ CG LG : List Rg, LG = CG ++ L ∧ ∃ QG : List Rg, QG = CG ++ LP ∧ ∃ L : List Rg, L = LG ∧ ∃ LP : List Rg, LP = QG ∧ (∀ r ∈ LP, r ∈ L) ∧ ∃ n_out324 : Nat, ∃ aout324 : Option Addr, ∃ pout324 : Option Nat, ∃ cout324 : Nat, ∃ Fout324 : Nat → Value, EnvHas e [(3, .slice aout324 n_out324 cout324)] ∧ St B w0 (⟨pout324, 0, cout324 * 3, Fout324, true⟩ :: L) w ∧ LO (D25.at LP) [] aout324 pout324 n_out324 cout324 Fout324 y_out324) ?_ ?_
  ·
    refine W.block ?_
    refine W.iter hI325 (fun (s325 : ((List (Int × (List Byte) × (List Byte))) × Nat)) e w => ∃ CG LG : List Rg, LG = CG ++ L ∧ ∃ QG : List Rg, QG = CG ++ LP ∧ ∃ L : List Rg, L = LG ∧ ∃ LP : List Rg, LP = QG ∧ (∀ r ∈ LP, r ∈ L) ∧ ∃ n_out321 : Nat, ∃ aout321 : Option Addr, ∃ pout321 : Option Nat, ∃ cout321 : Nat, ∃ Fout321 : Nat → Value, EnvHas e [(0, .slice al_1 l_1.length cl_1), (3, .slice aout321 n_out321 cout321), (4, VN s325.2)] ∧ St B w0 (⟨pout321, 0, cout321 * 3, Fout321, true⟩ :: L) w ∧ LO (D25.at LP) [] aout321 pout321 n_out321 cout321 Fout321 s325.1) ⟨[], L, rfl, LP, rfl, L, rfl, LP, rfl, hLP, 0, none, none, 0, (fun _ => undef), (EnvHas.cons rfl (EnvHas.cons rfl (EnvHas.cons rfl EnvHas.nil))), h326, LO.nil⟩ ?_
    rintro ⟨out321, i_323⟩ o325 hR hx325 ev327 wl327 ⟨CG327, LG327, hlg327, QG327, hqg327, L, hLe327, LP, hQe327, hLPn327, n_out321, aout321, pout321, cout321, Fout321, he327, h327, hout321⟩
    try dsimp only at he327 h327 hout321
    obtain rfl : List.length (α := (Int × (List Byte) × (List Byte))) out321 = n_out321 := hout321.hl
    obtain ⟨ev327, rfl⟩ := he327.open
    unfold lethelaw11_sorted_l0 at hR
    have hL327 := hLe327.trans hlg327
    have hQ327 := hQe327.trans hqg327
    replace hLP : ∀ r ∈ LP, r ∈ L := by rw [hQ327, hL327]; exact frMemGrow hLP
    replace hFr : Fr2 _ _ L LP := hFr.step hL327 hQ327
    replace hFj325 : Fr2 _ _ L LP := hFj325.step hL327 hQ327
    obtain ⟨ix329, hv329⟩ : ∃ i, LV (D25.at LP) L i al_1 l_1.length cl_1 l_1 := ⟨_, by rw [hL327, hQ327]; exact (LV.grow D25_lifts (fun r hr => List.mem_append_right _ hr) hl_1).app _⟩
    refine W.seq_k fun K330 hK330 => ?_
    refine W.seq_k fun K334 hK334 => ?_
    refine W.regionT [(0, true), (1, true), (2, true), (3, true), (4, true), (5, true), (6, true), (7, true)] (by kernel_rfl) ?_
    refine Plan.move_int rfl rfl ?_
    refine Plan.move_slice rfl rfl ?_
    refine Plan.len FLaw11.isl22 rfl rfl ?_
    by_cases hc335 : i_323 < l_1.length
    ·
      replace hR := ifT hR hc335
      refine Plan.cmpV (a := (((i_323 : Nat) : Int) : Int)) (b := (((l_1.length : Nat) : Int) : Int)) (p := i_323 < l_1.length) (v := true) rfl rfl rfl rfl icmp_ltN (decide_eq_true hc335) ?_
      refine Plan.move_bool rfl rfl ?_
      refine Plan.move_int rfl rfl ?_
      refine Plan.cmpP (a := (((i_323 : Nat) : Int) : Int)) (b := (60 : Int)) (p := i_323 < 60) rfl rfl rfl rfl icmp_ltN ?_
      refine Plan.pickTb rfl rfl rfl ?_
      refine Plan.nil ?_
      refine hK334 _ _ ?_; clear hK334
      by_cases hc336 : i_323 < 60
      ·
        replace hR := ifT hR hc336
        refine W.condT (congrArg Value.bool (decide_eq_true hc336)) ?_
        refine W.skip ?_
        refine hK330 _ _ ?_; clear hK330
        refine W.seq_k fun K337 hK337 => ?_
        refine W.block ?_
        refine W.seq_k fun K338 hK338 => ?_
        refine W.regionT [(0, true), (1, true), (2, true), (3, true), (4, false), (5, false), (6, false)] (by kernel_rfl) ?_
        refine Plan.move_slice rfl rfl ?_
        refine Plan.move_int rfl rfl ?_
        obtain ⟨hc339, hR⟩ := hR
        refine Plan.idxLVS (D := (D25.at LP)) (j := i_323) h327 (hv329.app [_]) FLaw11.sl22 rfl rfl rfl hc339 ?_
        refine Plan.loadLV (D := (D25.at LP)) (X := l_1) (j := i_323) (sz := 3) h327 ((0 : Int), ([] : List Byte), ([] : List Byte)) (hv329.app [_]) rfl rfl hc339 rfl FLaw11.agg25 fun b340 r340 hs340 hr340 => ?_
        obtain ⟨⟨i340_1, hv340_1⟩, ⟨i340_2, hv340_2⟩⟩ := hs340
        have hp340_1 : ∃ i, Bx LP i _ _ _ _ := ⟨_, hv340_1⟩
        obtain ⟨i340_1, hv340_1⟩ := Bx.lift hv340_1 hLP
        have hp340_2 : ∃ i, Bx LP i _ _ _ _ := ⟨_, hv340_2⟩
        obtain ⟨i340_2, hv340_2⟩ := Bx.lift hv340_2 hLP
        obtain ⟨x_342, x_343, x_344, hr341, hR⟩ := hR
        refine Plan.call (vs := [AG [(1, fun _ => .int .i64 ((l_1.getD i_323 ((0 : Int), ([] : List Byte), ([] : List Byte))).1)), (1, fun _ => .slice ((b340.1).1) (((l_1.getD i_323 ((0 : Int), ([] : List Byte), ([] : List Byte))).2.1).length) ((b340.1).2)), (1, fun _ => .slice ((b340.2).1) (((l_1.getD i_323 ((0 : Int), ([] : List Byte), ([] : List Byte))).2.2).length) ((b340.2).2))]]) rfl FLaw11.call15 rfl (lethelaw11_right_ok (LP := LP) (by exact fun r hr => List.mem_append_right [_] (hLP r hr)) (by exact hp340_1) (by exact hp340_2) hr341 h327) ?_
        rintro _ w351 ⟨C351, iy0_1_345, ay0_1_346, cy0_1_347, iy0_2_348, ay0_2_349, cy0_2_350, rfl, h351, hf351_0, hf351_1⟩
        try dsimp only at hf351_0 hf351_1
        replace h351 := St.pool (N := []) (R := [_]) h351
        obtain ⟨L, hL352⟩ : ∃ X, X = C351 ++ L := ⟨_, rfl⟩
        obtain ⟨LP, hQ352⟩ : ∃ X, X = C351 ++ LP := ⟨_, rfl⟩
        replace hLP : ∀ r ∈ LP, r ∈ L := by rw [hQ352, hL352]; exact frMemGrow hLP
        have h352 := St.re (N := [_]) hL352 h351
        simp only [List.cons_append, List.nil_append] at h352
        replace hFr : Fr2 _ _ L LP := hFr.step hL352 hQ352
        replace hFj325 : Fr2 _ _ L LP := hFj325.step hL352 hQ352
        obtain ⟨ix353, hv353⟩ : ∃ i, LV (D25.at LP) L i al_1 l_1.length cl_1 l_1 := ⟨_, by rw [hL352, hQ352]; exact (LV.grow D25_lifts (fun r hr => List.mem_append_right _ hr) hv329).app _⟩
        obtain ⟨ix354, hv354⟩ : ∃ i, Bx L i ((b340.1).1) (((l_1.getD i_323 ((0 : Int), ([] : List Byte), ([] : List Byte))).2.1).length) ((b340.1).2) ((l_1.getD i_323 ((0 : Int), ([] : List Byte), ([] : List Byte))).2.1) := ⟨_, by rw [hL352]; exact hv340_1.app _⟩
        have hp354 : ∃ i, Bx LP i ((b340.1).1) (((l_1.getD i_323 ((0 : Int), ([] : List Byte), ([] : List Byte))).2.1).length) ((b340.1).2) ((l_1.getD i_323 ((0 : Int), ([] : List Byte), ([] : List Byte))).2.1) := by rw [hQ352]; exact ⟨_, hp340_1.choose_spec.app _⟩
        obtain ⟨ix355, hv355⟩ : ∃ i, Bx L i ((b340.2).1) (((l_1.getD i_323 ((0 : Int), ([] : List Byte), ([] : List Byte))).2.2).length) ((b340.2).2) ((l_1.getD i_323 ((0 : Int), ([] : List Byte), ([] : List Byte))).2.2) := ⟨_, by rw [hL352]; exact hv340_2.app _⟩
        have hp355 : ∃ i, Bx LP i ((b340.2).1) (((l_1.getD i_323 ((0 : Int), ([] : List Byte), ([] : List Byte))).2.2).length) ((b340.2).2) ((l_1.getD i_323 ((0 : Int), ([] : List Byte), ([] : List Byte))).2.2) := by rw [hQ352]; exact ⟨_, hp340_2.choose_spec.app _⟩
        have ho356 : LO (D25.at LP) [] aout321 pout321 (out321).length cout321 Fout321 out321 := by rw [hQ352]; exact LO.grow D25_lifts (fun r hr => List.mem_append_right _ hr) hout321
        obtain ⟨jx357, hj357⟩ : ∃ j : Nat, L[j]? = some r340 := ⟨_, by rw [hL352]; exact flget (i := ix329) hr340 _⟩
        have hp358 : ∃ i, Bx LP i ay0_1_346 x_343.length cy0_1_347 x_343 := by rw [hQ352]; exact ⟨_, hf351_0⟩
        obtain ⟨ix358, hv358⟩ := Bx.lift hp358.choose_spec hLP
        have hp359 : ∃ i, Bx LP i ay0_2_349 x_344.length cy0_2_350 x_344 := by rw [hQ352]; exact ⟨_, hf351_1⟩
        obtain ⟨ix359, hv359⟩ := Bx.lift hp359.choose_spec hLP
        refine ⟨_, rfl, .inr ⟨rfl, ?_⟩⟩
        refine Plan.alloc h352 rfl FLaw11.z25 PIn.nil fun b360 w360 hb360 h360 => ?_
        simp only [rngs, Nat.zero_add, Nat.reduceAdd, List.cons_append, List.nil_append] at h360
        refine Plan.storeP (ps := [(1, fun _ => .int .i64 x_342), (1, fun _ => .slice ay0_1_346 x_343.length cy0_1_347), (1, fun _ => .slice ay0_2_349 x_344.length cy0_2_350)]) h360 rfl rfl rfl (.cons 0 rfl (.cons 1 rfl (.cons 2 rfl .nil))) ⟨fun _ _ => rfl, fun _ _ => rfl, fun _ _ => rfl, trivial⟩ FLaw11.sz25 (EffO.keep PIn.nil) fun w361 h361 => ?_
        simp only [List.cons_append, List.nil_append, List.set_cons_zero, List.set_cons_succ] at h361
        refine Plan.nil ?_
        refine hK338 _ _ ?_; clear hK338
        refine W.seq_k fun K362 hK362 => ?_
        refine W.regionT [(0, true)] (by kernel_rfl) ?_
        refine Plan.assign_slice rfl rfl ?_
        refine Plan.nil ?_
        refine hK362 _ _ ?_; clear hK362
        refine W.seq_k fun K363 hK363 => ?_
        refine W.regionT [(0, true)] (by kernel_rfl) ?_
        refine Plan.assign_bool rfl rfl ?_
        refine Plan.nil ?_
        refine hK363 _ _ ?_; clear hK363
        refine W.seq_k fun K364 hK364 => ?_
        refine W.seq_k fun K365 hK365 => ?_
        refine W.regionT [(0, true)] (by kernel_rfl) ?_
        refine Plan.assign_int rfl rfl ?_
        refine Plan.nil ?_
        refine hK365 _ _ ?_; clear hK365
        have h512 : St B w0 (⟨none, 0, 0 * 3, fun _ => undef, true⟩ :: _) _ := h361.nilE (fun _ => undef)
        obtain ⟨next509, done510, hI511, hR0511⟩ := hR
        refine W.cutN (fun e w => ∃ y_next509 : List (Int × (List Byte) × (List Byte)), ∃ y_done510 : Bool, (next509, done510) = (y_next509, y_done510) ∧ ∃ n_next509 : Nat, ∃ anext509 : Option Addr, ∃ pnext509 : Option Nat, ∃ cnext509 : Nat, ∃ Fnext509 : Nat → Value, EnvHas e [(0, .slice al_1 l_1.length cl_1), (4, VN i_323), (5, .pointer (some ⟨b360, 0, none⟩)), (6, .slice anext509 n_next509 cnext509), (7, .bool y_done510), (14, VN i_323), (15, .bool (decide (i_323 < 60)))] ∧ St B w0 (⟨pnext509, 0, cnext509 * 3, Fnext509, true⟩ :: ⟨some b360, 0, 1, fun _ => .int .i64 x_342, true⟩ :: ⟨some b360, 1, 1, fun _ => .slice ay0_1_346 x_343.length cy0_1_347, true⟩ :: ⟨some b360, 2, 1, fun _ => .slice ay0_2_349 x_344.length cy0_2_350, true⟩ :: L) w ∧ LO (D25.at LP) [] anext509 pnext509 n_next509 cnext509 Fnext509 y_next509) ?_ ?_
        ·
          refine W.block ?_
          refine W.iter hI511 (fun (s511 : ((List (Int × (List Byte) × (List Byte))) × Bool × Nat)) e w => ∃ n_next505 : Nat, ∃ anext505 : Option Addr, ∃ pnext505 : Option Nat, ∃ cnext505 : Nat, ∃ Fnext505 : Nat → Value, EnvHas e [(0, .slice al_1 l_1.length cl_1), (3, .slice aout321 out321.length cout321), (4, VN i_323), (5, .pointer (some ⟨b360, 0, none⟩)), (6, .slice anext505 n_next505 cnext505), (7, .bool s511.2.1), (8, VN s511.2.2), (14, VN i_323), (15, .bool (decide (i_323 < 60)))] ∧ St B w0 (⟨pnext505, 0, cnext505 * 3, Fnext505, true⟩ :: ⟨some b360, 0, 1, fun _ => .int .i64 x_342, true⟩ :: ⟨some b360, 1, 1, fun _ => .slice ay0_1_346 x_343.length cy0_1_347, true⟩ :: ⟨some b360, 2, 1, fun _ => .slice ay0_2_349 x_344.length cy0_2_350, true⟩ :: ⟨pout321, 0, cout321 * 3, Fout321, true⟩ :: L) w ∧ LO (D25.at LP) [] anext505 pnext505 n_next505 cnext505 Fnext505 s511.1) ⟨0, none, none, 0, (fun _ => undef), (EnvHas.cons rfl (EnvHas.cons rfl (EnvHas.cons rfl (EnvHas.cons rfl (EnvHas.cons rfl (EnvHas.cons rfl (EnvHas.cons rfl (EnvHas.cons rfl (EnvHas.cons rfl EnvHas.nil))))))))), h512, LO.nil⟩ ?_
          rintro ⟨next505, done507, k508⟩ o511 hR hx511 ev513 wl513 ⟨n_next505, anext505, pnext505, cnext505, Fnext505, he513, h513, hnext505⟩
          try dsimp only at he513 h513 hnext505
          obtain rfl : List.length (α := (Int × (List Byte) × (List Byte))) next505 = n_next505 := hnext505.hl
          obtain ⟨ev513, rfl⟩ := he513.open
          unfold lethelaw11_sorted_l1 at hR
          refine W.seq_k fun K514 hK514 => ?_
          refine W.seq_k fun K515 hK515 => ?_
          refine W.regionT [(0, true), (1, true), (2, true), (3, true)] (by kernel_rfl) ?_
          refine Plan.move_int rfl rfl ?_
          refine Plan.move_slice rfl rfl ?_
          refine Plan.len FLaw11.isl22 rfl rfl ?_
          refine Plan.cmpP (a := (((k508 : Nat) : Int) : Int)) (b := (((out321.length : Nat) : Int) : Int)) (p := k508 < out321.length) rfl rfl rfl rfl icmp_ltN ?_
          refine Plan.nil ?_
          refine hK515 _ _ ?_; clear hK515
          by_cases hc516 : k508 < out321.length
          ·
            replace hR := ifT hR hc516
            refine W.condT (congrArg Value.bool (decide_eq_true hc516)) ?_
            refine W.skip ?_
            refine hK514 _ _ ?_; clear hK514
            refine W.seq_k fun K517 hK517 => ?_
            refine W.block ?_
            refine W.seq_k fun K518 hK518 => ?_
            obtain ⟨next533, done534, hX535, hR0535⟩ := hR
            refine W.cutN (fun e w => ∃ y_next533 : List (Int × (List Byte) × (List Byte)), ∃ y_done534 : Bool, (next533 = y_next533 ∧ done534 = y_done534) ∧ ∃ n_next533 : Nat, ∃ anext533 : Option Addr, ∃ pnext533 : Option Nat, ∃ cnext533 : Nat, ∃ Fnext533 : Nat → Value, EnvHas e [(0, .slice al_1 l_1.length cl_1), (3, .slice aout321 out321.length cout321), (4, VN i_323), (5, .pointer (some ⟨b360, 0, none⟩)), (6, .slice anext533 n_next533 cnext533), (7, .bool y_done534), (8, VN k508), (14, VN i_323), (15, .bool (decide (i_323 < 60)))] ∧ St B w0 (⟨pnext533, 0, cnext533 * 3, Fnext533, true⟩ :: ⟨some b360, 0, 1, fun _ => .int .i64 x_342, true⟩ :: ⟨some b360, 1, 1, fun _ => .slice ay0_1_346 x_343.length cy0_1_347, true⟩ :: ⟨some b360, 2, 1, fun _ => .slice ay0_2_349 x_344.length cy0_2_350, true⟩ :: ⟨pout321, 0, cout321 * 3, Fout321, true⟩ :: L) w ∧ LO (D25.at LP) [] anext533 pnext533 n_next533 cnext533 Fnext533 y_next533) ?_ ?_
            ·
              replace hR := hX535
              refine W.seq_k fun K536 hK536 => ?_
              refine W.regionD FLaw11.mixed [(0, true), (1, true), (2, true), (3, true), (4, true), (5, true), (6, true), (7, true), (8, false), (9, true), (10, true)] (by kernel_rfl) ?_
              have h537 := h513.drew
              by_cases hc538 : done507 = true
              ·
                replace hR := ifT hR hc538
                refine Plan.move_bool (b := true) rfl (congrArg Value.bool hc538) ?_
                refine Plan.notT rfl rfl ?_
                refine Plan.move_bool rfl rfl ?_
                refine Plan.passed rfl ?_
                refine Plan.passed rfl ?_
                refine Plan.passed rfl ?_
                refine Plan.passed rfl ?_
                refine Plan.passed rfl ?_
                refine Plan.passed rfl ?_
                refine Plan.passed rfl ?_
                refine Plan.pickFb rfl rfl rfl ?_
                refine Plan.nil ?_
                refine hK536 _ _ ?_; clear hK536
                refine W.condF rfl ?_
                refine W.skip ?_
                exact ⟨next505, done507, hR, next505.length, anext505, pnext505, cnext505, Fnext505, (EnvHas.cons rfl (EnvHas.cons rfl (EnvHas.cons rfl (EnvHas.cons rfl (EnvHas.cons rfl (EnvHas.cons rfl (EnvHas.cons rfl (EnvHas.cons rfl (EnvHas.cons rfl EnvHas.nil))))))))), h537, hnext505⟩
              ·
                replace hR := ifF hR hc538
                refine Plan.move_bool (b := false) rfl (congrArg Value.bool (Bool.eq_false_iff.2 hc538)) ?_
                refine Plan.notF rfl rfl ?_
                refine Plan.move_bool rfl rfl ?_
                refine Plan.move_slice rfl rfl ?_
                refine Plan.move_int rfl rfl ?_
                obtain ⟨hc539, hR⟩ := hR
                refine Plan.idxLVS (D := (D25.at LP)) (j := k508) h537 (LO.lvf EL.at_flat ho356 4 rfl) FLaw11.sl22 rfl rfl rfl hc539 ?_
                refine Plan.loadLV (D := (D25.at LP)) (X := out321) (j := k508) (sz := 3) h537 ((0 : Int), ([] : List Byte), ([] : List Byte)) (LO.lvf EL.at_flat ho356 4 rfl) rfl rfl hc539 rfl FLaw11.agg25 fun b540 r540 hs540 hr540 => ?_
                obtain ⟨⟨i540_1, hv540_1⟩, ⟨i540_2, hv540_2⟩⟩ := hs540
                have hp540_1 : ∃ i, Bx LP i _ _ _ _ := ⟨_, hv540_1⟩
                obtain ⟨i540_1, hv540_1⟩ := Bx.lift hv540_1 hLP
                have hp540_2 : ∃ i, Bx LP i _ _ _ _ := ⟨_, hv540_2⟩
                obtain ⟨i540_2, hv540_2⟩ := Bx.lift hv540_2 hLP
                refine Plan.loadA h537 rfl rfl (.cons 1 rfl (.cons 2 rfl (.cons 3 rfl .nil))) FLaw11.agg25 ?_
                obtain ⟨x_542, hr541, hR⟩ := hR
                refine Plan.call (vs := [AG [(1, fun _ => .int .i64 ((out321.getD k508 ((0 : Int), ([] : List Byte), ([] : List Byte))).1)), (1, fun _ => .slice ((b540.1).1) (((out321.getD k508 ((0 : Int), ([] : List Byte), ([] : List Byte))).2.1).length) ((b540.1).2)), (1, fun _ => .slice ((b540.2).1) (((out321.getD k508 ((0 : Int), ([] : List Byte), ([] : List Byte))).2.2).length) ((b540.2).2))], AG [(1, fun _ => .int .i64 x_342), (1, fun _ => .slice ay0_1_346 x_343.length cy0_1_347), (1, fun _ => .slice ay0_2_349 x_344.length cy0_2_350)]]) rfl FLaw11.call18 rfl (lethelaw11_ahead_ok (hv540_1.app [_, _, _, _, _]) (hv540_2.app [_, _, _, _, _]) (hv358.app [_, _, _, _, _]) (hv359.app [_, _, _, _, _]) hr541 h537) ?_
                rintro _ w543 ⟨rfl, h543⟩
                refine ⟨_, rfl, .inr ⟨rfl, ?_⟩⟩
                refine Plan.not rfl rfl ?_
                refine Plan.pickTb rfl rfl rfl ?_
                refine Plan.nil ?_
                refine hK536 _ _ ?_; clear hK536
                by_cases hc544 : x_542 = true
                ·
                  replace hR := ifT hR hc544
                  refine W.condF (congrArg Value.bool (congrArg Bool.not hc544)) ?_
                  refine W.skip ?_
                  exact ⟨next505, done507, hR, next505.length, anext505, pnext505, cnext505, Fnext505, (EnvHas.cons rfl (EnvHas.cons rfl (EnvHas.cons rfl (EnvHas.cons rfl (EnvHas.cons rfl (EnvHas.cons rfl (EnvHas.cons rfl (EnvHas.cons rfl (EnvHas.cons rfl EnvHas.nil))))))))), h543, hnext505⟩
                ·
                  replace hR := ifF hR hc544
                  refine W.condT (congrArg Value.bool (congrArg Bool.not (Bool.eq_false_iff.2 hc544))) ?_
                  refine W.seq_k fun K545 hK545 => ?_
                  refine W.regionT [(0, true), (1, true), (2, false), (3, false), (4, true)] (by kernel_rfl) ?_
                  refine Plan.move_slice rfl rfl ?_
                  refine Plan.loadA h543 rfl rfl (.cons 1 rfl (.cons 2 rfl (.cons 3 rfl .nil))) FLaw11.agg25 ?_
                  refine Plan.buildLO (D := (D25.at LP)) (sz := 3) h543 [(((ay0_1_346, cy0_1_347), (ay0_2_349, cy0_2_350)), ((x_342, x_343, x_344) : (Int × (List Byte) × (List Byte))))] FLaw11.slu22 FLaw11.sz25 FLaw11.zv25 (by decide) (by decide) rfl rfl rfl rfl (by exact (List.forall_mem_cons.2 ⟨⟨hp358, hp359⟩, (fun _ h => nomatch h)⟩)) (EffO.wait rfl) fun b547 w547 F547 hb547 ho547 h547 => ?_
                  replace ho547 : LO (D25.at LP) [] (some ⟨b547, 0, none⟩) (some b547) ([(x_342, x_343, x_344)] : List (Int × (List Byte) × (List Byte))).length 1 F547 ([(x_342, x_343, x_344)] : List (Int × (List Byte) × (List Byte))) := ho547.re (fun _ _ h => h)
                  obtain ⟨hc549, hR⟩ := hR
                  refine Plan.appendLO (D := (D25.at LP)) (X := next505) (Y := ([(x_342, x_343, x_344)] : List (Int × (List Byte) × (List Byte)))) (sz := 3) h547 ((none, 0), (none, 0)) ((0 : Int), ([] : List Byte), ([] : List Byte)) 1 hnext505 rfl FLaw11.el22 rfl FLaw11.slu22 rfl rfl rfl rfl (LO.lvf EL.at_flat ho547 0 rfl) (fun _ _ h => h) hc549.1 hc549.2 (fun _ => EffO.keep PIn.nil) fun a548 pb548 cap548 F548 w548 ho548 h548 => ?_
                  simp only [List.cons_append, List.nil_append, List.set_cons_zero, List.set_cons_succ] at h548
                  replace ho548 : LO (D25.at LP) [] a548 pb548 (next505 ++ ([(x_342, x_343, x_344)] : List (Int × (List Byte) × (List Byte)))).length cap548 F548 (next505 ++ ([(x_342, x_343, x_344)] : List (Int × (List Byte) × (List Byte)))) := ho548.re (fun _ _ h => h)
                  refine Plan.assign_slice rfl rfl ?_
                  refine Plan.nil ?_
                  refine hK545 _ _ ?_; clear hK545
                  refine W.regionT [(0, true)] (by kernel_rfl) ?_
                  refine Plan.assign_bool rfl rfl ?_
                  refine Plan.nil ?_
                  have h550 := St.pickT (C := [_, _, _, _, _, _]) h548 [1, 2, 3, 4, 5] (by decide)
                  simp only [pick, List.filterMap_cons, List.filterMap_nil, List.getElem?_cons_zero, List.getElem?_cons_succ, List.cons_append, List.nil_append] at h550
                  exact ⟨(next505 ++ ([(x_342, x_343, x_344)] : List (Int × (List Byte) × (List Byte)))), true, hR, (next505 ++ ([(x_342, x_343, x_344)] : List (Int × (List Byte) × (List Byte)))).length, a548, pb548, cap548, F548, (EnvHas.cons rfl (EnvHas.cons rfl (EnvHas.cons rfl (EnvHas.cons rfl (EnvHas.cons rfl (EnvHas.cons rfl (EnvHas.cons rfl (EnvHas.cons rfl (EnvHas.cons rfl EnvHas.nil))))))))), h550, ho548⟩
            ·
              rintro ev551 wl551 ⟨y_next533, y_done534, ⟨hy551_0, hy551_1⟩, n_next533, anext533, pnext533, cnext533, Fnext533, he551, h551, hnext533⟩
              subst hy551_0
              subst hy551_1
              obtain rfl : List.length (α := (Int × (List Byte) × (List Byte))) next533 = n_next533 := hnext533.hl
              obtain ⟨ev551, rfl⟩ := he551.open
              replace hR := hR0535
              refine hK518 _ _ ?_; clear hK518
              refine W.seq_k fun K552 hK552 => ?_
              refine W.regionD FLaw11.mixed [(0, true), (1, true), (2, true), (3, true), (4, true), (5, false), (6, true), (7, true), (8, true), (9, true), (10, true), (11, true), (12, false), (13, true)] (by kernel_rfl) ?_
              have h553 := h551.drew
              refine Plan.move_slice rfl rfl ?_
              refine Plan.move_int rfl rfl ?_
              obtain ⟨hc554, hR⟩ := hR
              refine Plan.idxLVS (D := (D25.at LP)) (j := k508) h553 (LO.lvf EL.at_flat ho356 4 rfl) FLaw11.sl22 rfl rfl rfl hc554 ?_
              refine Plan.loadLV (D := (D25.at LP)) (X := out321) (j := k508) (sz := 3) h553 ((0 : Int), ([] : List Byte), ([] : List Byte)) (LO.lvf EL.at_flat ho356 4 rfl) rfl rfl hc554 rfl FLaw11.agg25 fun b555 r555 hs555 hr555 => ?_
              obtain ⟨⟨i555_1, hv555_1⟩, ⟨i555_2, hv555_2⟩⟩ := hs555
              have hp555_1 : ∃ i, Bx LP i _ _ _ _ := ⟨_, hv555_1⟩
              obtain ⟨i555_1, hv555_1⟩ := Bx.lift hv555_1 hLP
              have hp555_2 : ∃ i, Bx LP i _ _ _ _ := ⟨_, hv555_2⟩
              obtain ⟨i555_2, hv555_2⟩ := Bx.lift hv555_2 hLP
              refine Plan.loadA h553 rfl rfl (.cons 1 rfl (.cons 2 rfl (.cons 3 rfl .nil))) FLaw11.agg25 ?_
              obtain ⟨x_557, hr556, hR⟩ := hR
              refine Plan.call (vs := [AG [(1, fun _ => .int .i64 ((out321.getD k508 ((0 : Int), ([] : List Byte), ([] : List Byte))).1)), (1, fun _ => .slice ((b555.1).1) (((out321.getD k508 ((0 : Int), ([] : List Byte), ([] : List Byte))).2.1).length) ((b555.1).2)), (1, fun _ => .slice ((b555.2).1) (((out321.getD k508 ((0 : Int), ([] : List Byte), ([] : List Byte))).2.2).length) ((b555.2).2))], AG [(1, fun _ => .int .i64 x_342), (1, fun _ => .slice ay0_1_346 x_343.length cy0_1_347), (1, fun _ => .slice ay0_2_349 x_344.length cy0_2_350)]]) rfl FLaw11.call18 rfl (lethelaw11_ahead_ok (hv555_1.app [_, _, _, _, _]) (hv555_2.app [_, _, _, _, _]) (hv358.app [_, _, _, _, _]) (hv359.app [_, _, _, _, _]) hr556 h553) ?_
              rintro _ w558 ⟨rfl, h558⟩
              refine ⟨_, rfl, .inr ⟨rfl, ?_⟩⟩
              by_cases hc559 : x_557 = true
              ·
                replace hR := ifT hR hc559
                obtain rfl : x_557 = true := hc559
                refine Plan.move_bool rfl rfl ?_
                refine Plan.passed rfl ?_
                refine Plan.passed rfl ?_
                refine Plan.passed rfl ?_
                refine Plan.passed rfl ?_
                refine Plan.passed rfl ?_
                refine Plan.passed rfl ?_
                refine Plan.pickTb rfl rfl rfl ?_
                refine Plan.nil ?_
                refine hK552 _ _ ?_; clear hK552
                refine W.condT rfl ?_
                refine W.regionT [(0, true), (1, true), (2, true), (3, true), (4, true), (5, false), (6, false), (7, true)] (by kernel_rfl) ?_
                refine Plan.move_slice rfl rfl ?_
                refine Plan.move_slice rfl rfl ?_
                refine Plan.move_int rfl rfl ?_
                obtain ⟨hc560, hR⟩ := hR
                refine Plan.idxLVS (D := (D25.at LP)) (j := k508) h558 (LO.lvf EL.at_flat ho356 4 rfl) FLaw11.sl22 rfl rfl rfl hc560 ?_
                refine Plan.loadLV (D := (D25.at LP)) (X := out321) (j := k508) (sz := 3) h558 ((0 : Int), ([] : List Byte), ([] : List Byte)) (LO.lvf EL.at_flat ho356 4 rfl) rfl rfl hc560 rfl FLaw11.agg25 fun b561 r561 hs561 hr561 => ?_
                obtain ⟨⟨i561_1, hv561_1⟩, ⟨i561_2, hv561_2⟩⟩ := hs561
                have hp561_1 : ∃ i, Bx LP i _ _ _ _ := ⟨_, hv561_1⟩
                obtain ⟨i561_1, hv561_1⟩ := Bx.lift hv561_1 hLP
                have hp561_2 : ∃ i, Bx LP i _ _ _ _ := ⟨_, hv561_2⟩
                obtain ⟨i561_2, hv561_2⟩ := Bx.lift hv561_2 hLP
                refine Plan.buildLO (D := (D25.at LP)) (sz := 3) h558 [((((b561.1).1, (b561.1).2), ((b561.2).1, (b561.2).2)), (((out321.getD k508 ((0 : Int), ([] : List Byte), ([] : List Byte))).1, ((out321.getD k508 ((0 : Int), ([] : List Byte), ([] : List Byte))).2.1), ((out321.getD k508 ((0 : Int), ([] : List Byte), ([] : List Byte))).2.2)) : (Int × (List Byte) × (List Byte))))] FLaw11.slu22 FLaw11.sz25 FLaw11.zv25 (by decide) (by decide) rfl rfl rfl rfl (by exact (List.forall_mem_cons.2 ⟨⟨hp561_1, hp561_2⟩, (fun _ h => nomatch h)⟩)) (EffO.wait rfl) fun b563 w563 F563 hb563 ho563 h563 => ?_
                replace ho563 : LO (D25.at LP) [] (some ⟨b563, 0, none⟩) (some b563) ([((out321.getD k508 ((0 : Int), ([] : List Byte), ([] : List Byte))).1, ((out321.getD k508 ((0 : Int), ([] : List Byte), ([] : List Byte))).2.1), ((out321.getD k508 ((0 : Int), ([] : List Byte), ([] : List Byte))).2.2))] : List (Int × (List Byte) × (List Byte))).length 1 F563 ([((out321.getD k508 ((0 : Int), ([] : List Byte), ([] : List Byte))).1, ((out321.getD k508 ((0 : Int), ([] : List Byte), ([] : List Byte))).2.1), ((out321.getD k508 ((0 : Int), ([] : List Byte), ([] : List Byte))).2.2))] : List (Int × (List Byte) × (List Byte))) := ho563.re (fun _ _ h => h)
                obtain ⟨hc565, hR⟩ := hR
                refine Plan.appendLO (D := (D25.at LP)) (X := next533) (Y := ([((out321.getD k508 ((0 : Int), ([] : List Byte), ([] : List Byte))).1, ((out321.getD k508 ((0 : Int), ([] : List Byte), ([] : List Byte))).2.1), ((out321.getD k508 ((0 : Int), ([] : List Byte), ([] : List Byte))).2.2))] : List (Int × (List Byte) × (List Byte)))) (sz := 3) h563 ((none, 0), (none, 0)) ((0 : Int), ([] : List Byte), ([] : List Byte)) 1 hnext533 rfl FLaw11.el22 rfl FLaw11.slu22 rfl rfl rfl rfl (LO.lvf EL.at_flat ho563 0 rfl) (fun _ _ h => h) hc565.1 hc565.2 (fun _ => EffO.keep PIn.nil) fun a564 pb564 cap564 F564 w564 ho564 h564 => ?_
                simp only [List.cons_append, List.nil_append, List.set_cons_zero, List.set_cons_succ] at h564
                replace ho564 : LO (D25.at LP) [] a564 pb564 (next533 ++ ([((out321.getD k508 ((0 : Int), ([] : List Byte), ([] : List Byte))).1, ((out321.getD k508 ((0 : Int), ([] : List Byte), ([] : List Byte))).2.1), ((out321.getD k508 ((0 : Int), ([] : List Byte), ([] : List Byte))).2.2))] : List (Int × (List Byte) × (List Byte)))).length cap564 F564 (next533 ++ ([((out321.getD k508 ((0 : Int), ([] : List Byte), ([] : List Byte))).1, ((out321.getD k508 ((0 : Int), ([] : List Byte), ([] : List Byte))).2.1), ((out321.getD k508 ((0 : Int), ([] : List Byte), ([] : List Byte))).2.2))] : List (Int × (List Byte) × (List Byte)))) := ho564.re (fun _ _ h => h)
                refine Plan.assign_slice rfl rfl ?_
                refine Plan.nil ?_
                refine blockR_norm ?_
                refine hK517 _ _ ?_; clear hK517
                refine W.regionT [(0, true), (1, true), (2, true)] (by kernel_rfl) ?_
                refine Plan.move_int rfl rfl ?_
                obtain ⟨hc566, hR⟩ := hR
                refine Plan.addN (a := k508) (b := 1) rfl rfl rfl (by omega) ?_
                refine Plan.assign_int rfl rfl ?_
                refine Plan.nil ?_
                have h567 := St.pickT (C := [_, _, _, _, _, _]) h564 [1, 2, 3, 4, 5] (by decide)
                simp only [pick, List.filterMap_cons, List.filterMap_nil, List.getElem?_cons_zero, List.getElem?_cons_succ, List.cons_append, List.nil_append] at h567
                exact iterR_norm ⟨_, hR, (next533 ++ ([((out321.getD k508 ((0 : Int), ([] : List Byte), ([] : List Byte))).1, ((out321.getD k508 ((0 : Int), ([] : List Byte), ([] : List Byte))).2.1), ((out321.getD k508 ((0 : Int), ([] : List Byte), ([] : List Byte))).2.2))] : List (Int × (List Byte) × (List Byte)))).length, a564, pb564, cap564, F564, (EnvHas.cons rfl (EnvHas.cons rfl (EnvHas.cons rfl (EnvHas.cons rfl (EnvHas.cons rfl (EnvHas.cons rfl (EnvHas.cons rfl (EnvHas.cons rfl (EnvHas.cons rfl EnvHas.nil))))))))), h567, ho564⟩
              ·
                replace hR := ifF hR hc559
                obtain rfl : x_557 = false := Bool.eq_false_iff.2 hc559
                refine Plan.move_bool rfl rfl ?_
                refine Plan.loadA h558 rfl rfl (.cons 1 rfl (.cons 2 rfl (.cons 3 rfl .nil))) FLaw11.agg25 ?_
                refine Plan.move_slice rfl rfl ?_
                refine Plan.move_int rfl rfl ?_
                obtain ⟨hc568, hR⟩ := hR
                refine Plan.idxLVS (D := (D25.at LP)) (j := k508) h558 (LO.lvf EL.at_flat ho356 4 rfl) FLaw11.sl22 rfl rfl rfl hc568 ?_
                refine Plan.loadLV (D := (D25.at LP)) (X := out321) (j := k508) (sz := 3) h558 ((0 : Int), ([] : List Byte), ([] : List Byte)) (LO.lvf EL.at_flat ho356 4 rfl) rfl rfl hc568 rfl FLaw11.agg25 fun b569 r569 hs569 hr569 => ?_
                obtain ⟨⟨i569_1, hv569_1⟩, ⟨i569_2, hv569_2⟩⟩ := hs569
                have hp569_1 : ∃ i, Bx LP i _ _ _ _ := ⟨_, hv569_1⟩
                obtain ⟨i569_1, hv569_1⟩ := Bx.lift hv569_1 hLP
                have hp569_2 : ∃ i, Bx LP i _ _ _ _ := ⟨_, hv569_2⟩
                obtain ⟨i569_2, hv569_2⟩ := Bx.lift hv569_2 hLP
                obtain ⟨x_571, hr570, hR⟩ := hR
                refine Plan.call (vs := [AG [(1, fun _ => .int .i64 x_342), (1, fun _ => .slice ay0_1_346 x_343.length cy0_1_347), (1, fun _ => .slice ay0_2_349 x_344.length cy0_2_350)], AG [(1, fun _ => .int .i64 ((out321.getD k508 ((0 : Int), ([] : List Byte), ([] : List Byte))).1)), (1, fun _ => .slice ((b569.1).1) (((out321.getD k508 ((0 : Int), ([] : List Byte), ([] : List Byte))).2.1).length) ((b569.1).2)), (1, fun _ => .slice ((b569.2).1) (((out321.getD k508 ((0 : Int), ([] : List Byte), ([] : List Byte))).2.2).length) ((b569.2).2))]]) rfl FLaw11.call18 rfl (lethelaw11_ahead_ok (hv358.app [_, _, _, _, _]) (hv359.app [_, _, _, _, _]) (hv569_1.app [_, _, _, _, _]) (hv569_2.app [_, _, _, _, _]) hr570 h558) ?_
                rintro _ w572 ⟨rfl, h572⟩
                refine ⟨_, rfl, .inr ⟨rfl, ?_⟩⟩
                refine Plan.pickFb rfl rfl rfl ?_
                refine Plan.nil ?_
                refine hK552 _ _ ?_; clear hK552
                by_cases hc573 : x_571 = true
                ·
                  replace hR := ifT hR hc573
                  refine W.condT (congrArg Value.bool hc573) ?_
                  refine W.regionT [(0, true), (1, true), (2, true), (3, true), (4, true), (5, false), (6, false), (7, true)] (by kernel_rfl) ?_
                  refine Plan.move_slice rfl rfl ?_
                  refine Plan.move_slice rfl rfl ?_
                  refine Plan.move_int rfl rfl ?_
                  obtain ⟨hc574, hR⟩ := hR
                  refine Plan.idxLVS (D := (D25.at LP)) (j := k508) h572 (LO.lvf EL.at_flat ho356 4 rfl) FLaw11.sl22 rfl rfl rfl hc574 ?_
                  refine Plan.loadLV (D := (D25.at LP)) (X := out321) (j := k508) (sz := 3) h572 ((0 : Int), ([] : List Byte), ([] : List Byte)) (LO.lvf EL.at_flat ho356 4 rfl) rfl rfl hc574 rfl FLaw11.agg25 fun b575 r575 hs575 hr575 => ?_
                  obtain ⟨⟨i575_1, hv575_1⟩, ⟨i575_2, hv575_2⟩⟩ := hs575
                  have hp575_1 : ∃ i, Bx LP i _ _ _ _ := ⟨_, hv575_1⟩
                  obtain ⟨i575_1, hv575_1⟩ := Bx.lift hv575_1 hLP
                  have hp575_2 : ∃ i, Bx LP i _ _ _ _ := ⟨_, hv575_2⟩
                  obtain ⟨i575_2, hv575_2⟩ := Bx.lift hv575_2 hLP
                  refine Plan.buildLO (D := (D25.at LP)) (sz := 3) h572 [((((b575.1).1, (b575.1).2), ((b575.2).1, (b575.2).2)), (((out321.getD k508 ((0 : Int), ([] : List Byte), ([] : List Byte))).1, ((out321.getD k508 ((0 : Int), ([] : List Byte), ([] : List Byte))).2.1), ((out321.getD k508 ((0 : Int), ([] : List Byte), ([] : List Byte))).2.2)) : (Int × (List Byte) × (List Byte))))] FLaw11.slu22 FLaw11.sz25 FLaw11.zv25 (by decide) (by decide) rfl rfl rfl rfl (by exact (List.forall_mem_cons.2 ⟨⟨hp575_1, hp575_2⟩, (fun _ h => nomatch h)⟩)) (EffO.wait rfl) fun b577 w577 F577 hb577 ho577 h577 => ?_
                  replace ho577 : LO (D25.at LP) [] (some ⟨b577, 0, none⟩) (some b577) ([((out321.getD k508 ((0 : Int), ([] : List Byte), ([] : List Byte))).1, ((out321.getD k508 ((0 : Int), ([] : List Byte), ([] : List Byte))).2.1), ((out321.getD k508 ((0 : Int), ([] : List Byte), ([] : List Byte))).2.2))] : List (Int × (List Byte) × (List Byte))).length 1 F577 ([((out321.getD k508 ((0 : Int), ([] : List Byte), ([] : List Byte))).1, ((out321.getD k508 ((0 : Int), ([] : List Byte), ([] : List Byte))).2.1), ((out321.getD k508 ((0 : Int), ([] : List Byte), ([] : List Byte))).2.2))] : List (Int × (List Byte) × (List Byte))) := ho577.re (fun _ _ h => h)
                  obtain ⟨hc579, hR⟩ := hR
                  refine Plan.appendLO (D := (D25.at LP)) (X := next533) (Y := ([((out321.getD k508 ((0 : Int), ([] : List Byte), ([] : List Byte))).1, ((out321.getD k508 ((0 : Int), ([] : List Byte), ([] : List Byte))).2.1), ((out321.getD k508 ((0 : Int), ([] : List Byte), ([] : List Byte))).2.2))] : List (Int × (List Byte) × (List Byte)))) (sz := 3) h577 ((none, 0), (none, 0)) ((0 : Int), ([] : List Byte), ([] : List Byte)) 1 hnext533 rfl FLaw11.el22 rfl FLaw11.slu22 rfl rfl rfl rfl (LO.lvf EL.at_flat ho577 0 rfl) (fun _ _ h => h) hc579.1 hc579.2 (fun _ => EffO.keep PIn.nil) fun a578 pb578 cap578 F578 w578 ho578 h578 => ?_
                  simp only [List.cons_append, List.nil_append, List.set_cons_zero, List.set_cons_succ] at h578
                  replace ho578 : LO (D25.at LP) [] a578 pb578 (next533 ++ ([((out321.getD k508 ((0 : Int), ([] : List Byte), ([] : List Byte))).1, ((out321.getD k508 ((0 : Int), ([] : List Byte), ([] : List Byte))).2.1), ((out321.getD k508 ((0 : Int), ([] : List Byte), ([] : List Byte))).2.2))] : List (Int × (List Byte) × (List Byte)))).length cap578 F578 (next533 ++ ([((out321.getD k508 ((0 : Int), ([] : List Byte), ([] : List Byte))).1, ((out321.getD k508 ((0 : Int), ([] : List Byte), ([] : List Byte))).2.1), ((out321.getD k508 ((0 : Int), ([] : List Byte), ([] : List Byte))).2.2))] : List (Int × (List Byte) × (List Byte)))) := ho578.re (fun _ _ h => h)
                  refine Plan.assign_slice rfl rfl ?_
                  refine Plan.nil ?_
                  refine blockR_norm ?_
                  refine hK517 _ _ ?_; clear hK517
                  refine W.regionT [(0, true), (1, true), (2, true)] (by kernel_rfl) ?_
                  refine Plan.move_int rfl rfl ?_
                  obtain ⟨hc580, hR⟩ := hR
                  refine Plan.addN (a := k508) (b := 1) rfl rfl rfl (by omega) ?_
                  refine Plan.assign_int rfl rfl ?_
                  refine Plan.nil ?_
                  have h581 := St.pickT (C := [_, _, _, _, _, _]) h578 [1, 2, 3, 4, 5] (by decide)
                  simp only [pick, List.filterMap_cons, List.filterMap_nil, List.getElem?_cons_zero, List.getElem?_cons_succ, List.cons_append, List.nil_append] at h581
                  exact iterR_norm ⟨_, hR, (next533 ++ ([((out321.getD k508 ((0 : Int), ([] : List Byte), ([] : List Byte))).1, ((out321.getD k508 ((0 : Int), ([] : List Byte), ([] : List Byte))).2.1), ((out321.getD k508 ((0 : Int), ([] : List Byte), ([] : List Byte))).2.2))] : List (Int × (List Byte) × (List Byte)))).length, a578, pb578, cap578, F578, (EnvHas.cons rfl (EnvHas.cons rfl (EnvHas.cons rfl (EnvHas.cons rfl (EnvHas.cons rfl (EnvHas.cons rfl (EnvHas.cons rfl (EnvHas.cons rfl (EnvHas.cons rfl EnvHas.nil))))))))), h581, ho578⟩
                ·
                  replace hR := ifF hR hc573
                  refine W.condF (congrArg Value.bool (Bool.eq_false_iff.2 hc573)) ?_
                  refine W.skip ?_
                  refine blockR_norm ?_
                  refine hK517 _ _ ?_; clear hK517
                  refine W.regionT [(0, true), (1, true), (2, true)] (by kernel_rfl) ?_
                  refine Plan.move_int rfl rfl ?_
                  obtain ⟨hc582, hR⟩ := hR
                  refine Plan.addN (a := k508) (b := 1) rfl rfl rfl (by omega) ?_
                  refine Plan.assign_int rfl rfl ?_
                  refine Plan.nil ?_
                  exact iterR_norm ⟨_, hR, next533.length, anext533, pnext533, cnext533, Fnext533, (EnvHas.cons rfl (EnvHas.cons rfl (EnvHas.cons rfl (EnvHas.cons rfl (EnvHas.cons rfl (EnvHas.cons rfl (EnvHas.cons rfl (EnvHas.cons rfl (EnvHas.cons rfl EnvHas.nil))))))))), h572, hnext533⟩
          ·
            replace hR := ifF hR hc516
            refine W.condF (congrArg Value.bool (decide_eq_false hc516)) ?_
            refine W.exit (thenR_exit (iterR_exit (blockR_here ?_)))
            have h583 := St.pickT (C := [_, _, _, _, _]) h513 [0, 1, 2, 3] (by decide)
            simp only [pick, List.filterMap_cons, List.filterMap_nil, List.getElem?_cons_zero, List.getElem?_cons_succ, List.cons_append, List.nil_append] at h583
            exact ⟨next505, done507, (hx511 _ hR).symm, next505.length, anext505, pnext505, cnext505, Fnext505, (EnvHas.cons rfl (EnvHas.cons rfl (EnvHas.cons rfl (EnvHas.cons rfl (EnvHas.cons rfl (EnvHas.cons rfl (EnvHas.cons rfl EnvHas.nil))))))), h583, hnext505⟩
        ·
          rintro ev584 wl584 ⟨y_next509, y_done510, hy584, n_next509, anext509, pnext509, cnext509, Fnext509, he584, h584, hnext509⟩
          obtain ⟨ev584, rfl⟩ := he584.open
          cases hy584
          replace hR := hR0511
          obtain rfl : List.length (α := (Int × (List Byte) × (List Byte))) next509 = n_next509 := hnext509.hl
          refine hK364 _ _ ?_; clear hK364
          refine W.seq_k fun K585 hK585 => ?_
          refine W.seq_k fun K586 hK586 => ?_
          refine W.regionT [(0, true), (1, true)] (by kernel_rfl) ?_
          refine Plan.move_bool rfl rfl ?_
          refine Plan.not rfl rfl ?_
          refine Plan.nil ?_
          refine hK586 _ _ ?_; clear hK586
          by_cases hc587 : done510 = true
          ·
            replace hR := ifT hR hc587
            refine W.condF (congrArg Value.bool (congrArg Bool.not hc587)) ?_
            refine W.skip ?_
            refine hK585 _ _ ?_; clear hK585
            refine W.regionT [(0, true), (1, true)] (by kernel_rfl) ?_
            refine Plan.move_slice rfl rfl ?_
            refine Plan.assign_slice rfl rfl ?_
            refine Plan.nil ?_
            refine blockR_norm ?_
            refine hK337 _ _ ?_; clear hK337
            refine W.regionT [(0, true), (1, true), (2, true)] (by kernel_rfl) ?_
            refine Plan.move_int rfl rfl ?_
            refine Plan.addN (a := i_323) (b := 1) rfl rfl rfl (by omega) ?_
            refine Plan.assign_int rfl rfl ?_
            refine Plan.nil ?_
            have h588 := St.pickT (C := [_, _, _, _]) h584 [0] (by decide)
            simp only [pick, List.filterMap_cons, List.filterMap_nil, List.getElem?_cons_zero, List.getElem?_cons_succ, List.cons_append, List.nil_append] at h588
            obtain ⟨CF589, hx589, hy589⟩ := hFj325
            exact iterR_norm ⟨_, hR, CF589, L, hx589, LP, hy589, L, rfl, LP, rfl, hLP, next509.length, anext509, pnext509, cnext509, Fnext509, (EnvHas.cons rfl (EnvHas.cons rfl (EnvHas.cons rfl EnvHas.nil))), h588, hnext509⟩
          ·
            replace hR := ifF hR hc587
            refine W.condT (congrArg Value.bool (congrArg Bool.not (Bool.eq_false_iff.2 hc587))) ?_
            refine W.regionT [(0, true), (1, true), (2, false), (3, false), (4, true)] (by kernel_rfl) ?_
            refine Plan.move_slice rfl rfl ?_
            refine Plan.loadA h584 rfl rfl (.cons 1 rfl (.cons 2 rfl (.cons 3 rfl .nil))) FLaw11.agg25 ?_
            refine Plan.buildLO (D := (D25.at LP)) (sz := 3) h584 [(((ay0_1_346, cy0_1_347), (ay0_2_349, cy0_2_350)), ((x_342, x_343, x_344) : (Int × (List Byte) × (List Byte))))] FLaw11.slu22 FLaw11.sz25 FLaw11.zv25 (by decide) (by decide) rfl rfl rfl rfl (by exact (List.forall_mem_cons.2 ⟨⟨hp358, hp359⟩, (fun _ h => nomatch h)⟩)) (EffO.wait rfl) fun b591 w591 F591 hb591 ho591 h591 => ?_
            replace ho591 : LO (D25.at LP) [] (some ⟨b591, 0, none⟩) (some b591) ([(x_342, x_343, x_344)] : List (Int × (List Byte) × (List Byte))).length 1 F591 ([(x_342, x_343, x_344)] : List (Int × (List Byte) × (List Byte))) := ho591.re (fun _ _ h => h)
            obtain ⟨hc593, hR⟩ := hR
            refine Plan.appendLO (D := (D25.at LP)) (X := next509) (Y := ([(x_342, x_343, x_344)] : List (Int × (List Byte) × (List Byte)))) (sz := 3) h591 ((none, 0), (none, 0)) ((0 : Int), ([] : List Byte), ([] : List Byte)) 1 hnext509 rfl FLaw11.el22 rfl FLaw11.slu22 rfl rfl rfl rfl (LO.lvf EL.at_flat ho591 0 rfl) (fun _ _ h => h) hc593.1 hc593.2 (fun _ => EffO.keep PIn.nil) fun a592 pb592 cap592 F592 w592 ho592 h592 => ?_
            simp only [List.cons_append, List.nil_append, List.set_cons_zero, List.set_cons_succ] at h592
            replace ho592 : LO (D25.at LP) [] a592 pb592 (next509 ++ ([(x_342, x_343, x_344)] : List (Int × (List Byte) × (List Byte)))).length cap592 F592 (next509 ++ ([(x_342, x_343, x_344)] : List (Int × (List Byte) × (List Byte)))) := ho592.re (fun _ _ h => h)
            refine Plan.assign_slice rfl rfl ?_
            refine Plan.nil ?_
            refine hK585 _ _ ?_; clear hK585
            refine W.regionT [(0, true), (1, true)] (by kernel_rfl) ?_
            refine Plan.move_slice rfl rfl ?_
            refine Plan.assign_slice rfl rfl ?_
            refine Plan.nil ?_
            refine blockR_norm ?_
            refine hK337 _ _ ?_; clear hK337
            refine W.regionT [(0, true), (1, true), (2, true)] (by kernel_rfl) ?_
            refine Plan.move_int rfl rfl ?_
            refine Plan.addN (a := i_323) (b := 1) rfl rfl rfl (by omega) ?_
            refine Plan.assign_int rfl rfl ?_
            refine Plan.nil ?_
            have h594 := St.pickT (C := [_, _, _, _, _]) h592 [1] (by decide)
            simp only [pick, List.filterMap_cons, List.filterMap_nil, List.getElem?_cons_zero, List.getElem?_cons_succ, List.cons_append, List.nil_append] at h594
            obtain ⟨CF595, hx595, hy595⟩ := hFj325
            exact iterR_norm ⟨_, hR, CF595, L, hx595, LP, hy595, L, rfl, LP, rfl, hLP, (next509 ++ ([(x_342, x_343, x_344)] : List (Int × (List Byte) × (List Byte)))).length, a592, pb592, cap592, F592, (EnvHas.cons rfl (EnvHas.cons rfl (EnvHas.cons rfl EnvHas.nil))), h594, ho592⟩
      ·
        replace hR := ifF hR hc336
        refine W.condF (congrArg Value.bool (decide_eq_false hc336)) ?_
        refine W.exit (thenR_exit (iterR_exit (blockR_here ?_)))
        obtain ⟨CF596, hx596, hy596⟩ := hFj325
        exact ⟨out321, (hx325 _ hR).symm, CF596, L, hx596, LP, hy596, L, rfl, LP, rfl, hLP, out321.length, aout321, pout321, cout321, Fout321, (EnvHas.cons rfl EnvHas.nil), h327, hout321⟩
    ·
      replace hR := ifF hR hc335
      refine Plan.cmpV (a := (((i_323 : Nat) : Int) : Int)) (b := (((l_1.length : Nat) : Int) : Int)) (p := i_323 < l_1.length) (v := false) rfl rfl rfl rfl icmp_ltN (decide_eq_false hc335) ?_
      refine Plan.move_bool rfl rfl ?_
      refine Plan.passed rfl ?_
      refine Plan.passed rfl ?_
      refine Plan.pickFb rfl rfl rfl ?_
      refine Plan.nil ?_
      refine hK334 _ _ ?_; clear hK334
      refine W.condF rfl ?_
      refine W.exit (thenR_exit (iterR_exit (blockR_here ?_)))
      obtain ⟨CF597, hx597, hy597⟩ := hFj325
      exact ⟨out321, (hx325 _ hR).symm, CF597, L, hx597, LP, hy597, L, rfl, LP, rfl, hLP, out321.length, aout321, pout321, cout321, Fout321, (EnvHas.cons rfl EnvHas.nil), h327, hout321⟩
  ·
    rintro ev598 wl598 ⟨y_out324, hy598, CG598, LG598, hlg598, QG598, hqg598, L, hLe598, LP, hQe598, hLPn598, n_out324, aout324, pout324, cout324, Fout324, he598, h598, hout324⟩
    obtain ⟨ev598, rfl⟩ := he598.open
    subst hy598
    replace hR := hR0325
    obtain rfl : List.length (α := (Int × (List Byte) × (List Byte))) out324 = n_out324 := hout324.hl
    have hL598 := hLe598.trans hlg598
    have hQ598 := hQe598.trans hqg598
    replace hLP : ∀ r ∈ LP, r ∈ L := by rw [hQ598, hL598]; exact frMemGrow hLP
    replace hFr : Fr2 _ _ L LP := hFr.step hL598 hQ598
    replace hFj325 : Fr2 _ _ L LP := hFj325.step hL598 hQ598
    refine hK4 _ _ ?_; clear hK4
    refine W.seq_k fun K600 hK600 => ?_
    refine W.regionT [(0, true), (1, true)] (by kernel_rfl) ?_
    refine Plan.move_slice rfl rfl ?_
    refine Plan.assign_slice rfl rfl ?_
    refine Plan.nil ?_
    refine hK600 _ _ ?_; clear hK600
    refine W.ret (finR_ret ?_)
    subst r
    refine RetOk.mk (.tmp_slice rfl .nil) ?_
    obtain ⟨CF, hx1, hx2⟩ := hFr
    subst hx1
    subst hx2
    exact ⟨_, aout324, pout324, out324.length, cout324, Fout324, rfl, h598, hout324⟩


set_option maxRecDepth 8000 in
set_option maxHeartbeats 1000000 in
theorem lethelaw11_Eq_ok {B : Nat} {w0 w : World} {L : List Rg} {a1 : List Byte} {aa1 : Option Addr} {na1 ca1 ia1 : Nat} (ha1 : Bx L ia1 aa1 na1 ca1 a1) {b2 : List Byte} {ab2 : Option Addr} {nb2 cb2 ib2 : Nat} (hb2 : Bx L ib2 ab2 nb2 cb2 b2) {r : Bool} (hR : lethelaw11_Eq a1 b2 r) (HST : St B w0 (L) w) :
    Calls Try.prog 17 #[.slice aa1 na1 ca1, .slice ab2 nb2 cb2] w fun e w' => e = .returned (.bool r) ∧ St B w0 (L) w' := by
  refine W.enter 10 Try.func17 rfl rfl rfl ?_
  unfold lethelaw11_Eq at hR
  have ea1 := ha1.hl; subst ea1
  have eb2 := hb2.hl; subst eb2
  refine W.seq_k fun K3 hK3 => ?_
  refine W.regionT [(0, true)] (by kernel_rfl) ?_
  refine Plan.assign_bool rfl rfl ?_
  refine Plan.nil ?_
  refine hK3 _ _ ?_; clear hK3
  refine W.seq_k fun K4 hK4 => ?_
  refine W.regionT [(0, true), (1, true), (2, true), (3, true), (4, true), (5, true)] (by kernel_rfl) ?_
  refine Plan.move_slice rfl rfl ?_
  refine Plan.toStrV HST ha1 FLaw11.slu23 FLaw11.u5 FLaw11.str9 rfl rfl fun r5 hr5 => ?_
  replace hr5 := or_un [] hr5
  refine Plan.move_slice rfl rfl ?_
  refine Plan.toStrV HST hb2 FLaw11.slu23 FLaw11.u5 FLaw11.str9 rfl rfl fun r6 hr6 => ?_
  replace hr6 := or_un [] hr6
  refine Plan.eqStrV (v := decide (a1 = b2)) rfl rfl rfl rfl ?_
  refine Plan.assign_bool rfl rfl ?_
  refine Plan.nil ?_
  refine hK4 _ _ ?_; clear hK4
  refine W.ret (finR_ret ?_)
  subst r
  refine RetOk.mk (.tmp_bool rfl .nil) ?_
  exact ⟨rfl, HST⟩


set_option maxRecDepth 8000 in
set_option maxHeartbeats 1000000 in
theorem lethelaw11_Same_ok {B : Nat} {w0 w : World} {L : List Rg} {a1 : List (Int × (List Byte) × (List Byte))} {aa1 : Option Addr} {na1 ca1 ia1 : Nat} (ha1 : LV (D25.at L) L ia1 aa1 na1 ca1 a1) {b2 : List (Int × (List Byte) × (List Byte))} {ab2 : Option Addr} {nb2 cb2 ib2 : Nat} (hb2 : LV (D25.at L) L ib2 ab2 nb2 cb2 b2) {r : Bool} (hR : lethelaw11_Same a1 b2 r) (HST : St B w0 (L) w) :
    Calls Try.prog 27 #[.slice aa1 na1 ca1, .slice ab2 nb2 cb2] w fun e w' => e = .returned (.bool r) ∧ St B w0 (L) w' := by
  refine W.enter 56 Try.func27 rfl rfl rfl ?_
  unfold lethelaw11_Same at hR
  have ea1 := ha1.hl; subst ea1
  have eb2 := hb2.hl; subst eb2
  refine W.seq_k fun K3 hK3 => ?_
  refine W.regionT [(0, true)] (by kernel_rfl) ?_
  refine Plan.assign_bool rfl rfl ?_
  refine Plan.nil ?_
  refine hK3 _ _ ?_; clear hK3
  refine W.seq_k fun K4 hK4 => ?_
  refine W.seq_k fun K5 hK5 => ?_
  refine W.regionT [(0, true), (1, true), (2, true), (3, true), (4, true)] (by kernel_rfl) ?_
  refine Plan.move_slice rfl rfl ?_
  refine Plan.len FLaw11.isl22 rfl rfl ?_
  refine Plan.move_slice rfl rfl ?_
  refine Plan.len FLaw11.isl22 rfl rfl ?_
  refine Plan.cmpP (a := (((a1.length : Nat) : Int) : Int)) (b := (((b2.length : Nat) : Int) : Int)) (p := a1.length ≠ b2.length) rfl rfl rfl rfl icmp_neN ?_
  refine Plan.nil ?_
  refine hK5 _ _ ?_; clear hK5
  by_cases hc6 : a1.length ≠ b2.length
  ·
    replace hR := ifT hR hc6
    refine W.condT (congrArg Value.bool (decide_eq_true hc6)) ?_
    refine W.seq_k fun K7 hK7 => ?_
    refine W.regionT [(0, true)] (by kernel_rfl) ?_
    refine Plan.assign_bool rfl rfl ?_
    refine Plan.nil ?_
    refine hK7 _ _ ?_; clear hK7
    refine W.ret (thenR_ret (finR_ret ?_))
    subst r
    refine RetOk.mk (.tmp_bool rfl .nil) ?_
    exact ⟨rfl, HST⟩
  ·
    replace hR := ifF hR hc6
    refine W.condF (congrArg Value.bool (decide_eq_false hc6)) ?_
    refine W.skip ?_
    refine hK4 _ _ ?_; clear hK4
    refine W.seq_k fun K8 hK8 => ?_
    refine W.seq_k fun K9 hK9 => ?_
    refine W.regionT [(0, true)] (by kernel_rfl) ?_
    refine Plan.assign_int rfl rfl ?_
    refine Plan.nil ?_
    refine hK9 _ _ ?_; clear hK9
    obtain ⟨x73, hI73, hR073⟩ := hR
    refine W.cutN (fun e w => x73 = some () ∧ EnvHas e [] ∧ St B w0 (L) w) ?_ ?_
    ·
      refine W.block ?_
      refine W.iter hI73 (fun (s73 : Nat) e w => EnvHas e [(0, .slice aa1 a1.length ca1), (1, .slice ab2 b2.length cb2), (5, VN s73)] ∧ St B w0 (L) w) ⟨(EnvHas.cons rfl (EnvHas.cons rfl (EnvHas.cons rfl EnvHas.nil))), HST⟩ ?_
      rintro i_72 o73 hR hx73 ev74 wl74 ⟨he74, h74⟩
      obtain ⟨ev74, rfl⟩ := he74.open
      unfold lethelaw11_Same_l0 at hR
      refine W.seq_k fun K75 hK75 => ?_
      refine W.seq_k fun K76 hK76 => ?_
      refine W.regionT [(0, true), (1, true), (2, true), (3, true)] (by kernel_rfl) ?_
      refine Plan.move_int rfl rfl ?_
      refine Plan.move_slice rfl rfl ?_
      refine Plan.len FLaw11.isl22 rfl rfl ?_
      refine Plan.cmpP (a := (((i_72 : Nat) : Int) : Int)) (b := (((a1.length : Nat) : Int) : Int)) (p := i_72 < a1.length) rfl rfl rfl rfl icmp_ltN ?_
      refine Plan.nil ?_
      refine hK76 _ _ ?_; clear hK76
      by_cases hc77 : i_72 < a1.length
      ·
        replace hR := ifT hR hc77
        refine W.condT (congrArg Value.bool (decide_eq_true hc77)) ?_
        refine W.skip ?_
        refine hK75 _ _ ?_; clear hK75
        refine W.seq_k fun K78 hK78 => ?_
        refine W.block ?_
        refine W.seq_k fun K79 hK79 => ?_
        refine W.regionD FLaw11.mixed [(0, true), (1, true), (2, true), (3, true), (4, true), (5, true), (6, true), (7, true), (8, true), (9, true), (10, true), (11, true), (12, true), (13, true), (14, true), (15, true), (16, true), (17, true), (18, true), (19, true), (20, true), (21, true), (22, false), (23, true), (24, true), (25, true), (26, true), (27, true), (28, true), (29, true), (30, true), (31, true), (32, true), (33, true), (34, true), (35, true), (36, false), (37, true), (38, true)] (by kernel_rfl) ?_
        have h80 := h74.drew
        refine Plan.move_slice rfl rfl ?_
        refine Plan.move_int rfl rfl ?_
        obtain ⟨hc81, hR⟩ := hR
        refine Plan.idxLVS (D := (D25.at L)) (j := i_72) h80 ha1 FLaw11.sl22 rfl rfl rfl hc81 ?_
        refine Plan.fieldLV (D := (D25.at L)) (j := i_72) (sz := 3) h80 0 ha1 hc81 FLaw11.fld25_0 rfl rfl ?_
        refine Plan.loadLVf (D := (D25.at L)) (X := a1) (j := i_72) (sz := 3) (off := 0) h80 ((0 : Int), ([] : List Byte), ([] : List Byte)) (fun _ x => .int .i64 x.1) ha1 rfl rfl hc81 rfl (by decide) (fun _ _ => rfl) FLaw11.sc3 fun b82 r82 hs82 hr82 => ?_
        refine Plan.move_slice rfl rfl ?_
        refine Plan.move_int rfl rfl ?_
        obtain ⟨hc83, hR⟩ := hR
        refine Plan.idxLVS (D := (D25.at L)) (j := i_72) h80 hb2 FLaw11.sl22 rfl rfl rfl hc83 ?_
        refine Plan.fieldLV (D := (D25.at L)) (j := i_72) (sz := 3) h80 0 hb2 hc83 FLaw11.fld25_0 rfl rfl ?_
        refine Plan.loadLVf (D := (D25.at L)) (X := b2) (j := i_72) (sz := 3) (off := 0) h80 ((0 : Int), ([] : List Byte), ([] : List Byte)) (fun _ x => .int .i64 x.1) hb2 rfl rfl hc83 rfl (by decide) (fun _ _ => rfl) FLaw11.sc3 fun b84 r84 hs84 hr84 => ?_
        by_cases hc85 : (a1.getD i_72 ((0 : Int), ([] : List Byte), ([] : List Byte))).1 ≠ (b2.getD i_72 ((0 : Int), ([] : List Byte), ([] : List Byte))).1
        ·
          replace hR := ifT hR hc85
          refine Plan.cmpV (a := ((a1.getD i_72 ((0 : Int), ([] : List Byte), ([] : List Byte))).1 : Int)) (b := ((b2.getD i_72 ((0 : Int), ([] : List Byte), ([] : List Byte))).1 : Int)) (p := (a1.getD i_72 ((0 : Int), ([] : List Byte), ([] : List Byte))).1 ≠ (b2.getD i_72 ((0 : Int), ([] : List Byte), ([] : List Byte))).1) (v := true) rfl rfl rfl rfl icmp_ne (decide_eq_true hc85) ?_
          refine Plan.move_bool rfl rfl ?_
          refine Plan.passed rfl ?_
          refine Plan.passed rfl ?_
          refine Plan.passed rfl ?_
          refine Plan.passed rfl ?_
          refine Plan.passed rfl ?_
          refine Plan.passed rfl ?_
          refine Plan.passed rfl ?_
          refine Plan.passed rfl ?_
          refine Plan.passed rfl ?_
          refine Plan.passed rfl ?_
          refine Plan.passed rfl ?_
          refine Plan.passed rfl ?_
          refine Plan.pickTb rfl rfl rfl ?_
          refine Plan.move_bool rfl rfl ?_
          refine Plan.passed rfl ?_
          refine Plan.passed rfl ?_
          refine Plan.passed rfl ?_
          refine Plan.passed rfl ?_
          refine Plan.passed rfl ?_
          refine Plan.passed rfl ?_
          refine Plan.passed rfl ?_
          refine Plan.passed rfl ?_
          refine Plan.passed rfl ?_
          refine Plan.passed rfl ?_
          refine Plan.passed rfl ?_
          refine Plan.passed rfl ?_
          refine Plan.pickTb rfl rfl rfl ?_
          refine Plan.nil ?_
          refine hK79 _ _ ?_; clear hK79
          refine W.condT rfl ?_
          refine W.seq_k fun K86 hK86 => ?_
          refine W.regionT [(0, true)] (by kernel_rfl) ?_
          refine Plan.assign_bool rfl rfl ?_
          refine Plan.nil ?_
          refine hK86 _ _ ?_; clear hK86
          refine W.ret (blockR_ret (thenR_ret (iterR_ret (blockR_ret (thenR_ret (thenR_ret (finR_ret ?_)))))))
          replace hR := hR.2
          subst r
          refine RetOk.mk (.tmp_bool rfl .nil) ?_
          exact ⟨rfl, h80⟩
        ·
          replace hR := ifF hR hc85
          refine Plan.cmpV (a := ((a1.getD i_72 ((0 : Int), ([] : List Byte), ([] : List Byte))).1 : Int)) (b := ((b2.getD i_72 ((0 : Int), ([] : List Byte), ([] : List Byte))).1 : Int)) (p := (a1.getD i_72 ((0 : Int), ([] : List Byte), ([] : List Byte))).1 ≠ (b2.getD i_72 ((0 : Int), ([] : List Byte), ([] : List Byte))).1) (v := false) rfl rfl rfl rfl icmp_ne (decide_eq_false hc85) ?_
          refine Plan.move_bool rfl rfl ?_
          refine Plan.move_slice rfl rfl ?_
          refine Plan.move_int rfl rfl ?_
          obtain ⟨hc87, hR⟩ := hR
          refine Plan.idxLVS (D := (D25.at L)) (j := i_72) h80 ha1 FLaw11.sl22 rfl rfl rfl hc87 ?_
          refine Plan.fieldLV (D := (D25.at L)) (j := i_72) (sz := 3) h80 1 ha1 hc87 FLaw11.fld25_1 rfl rfl ?_
          refine Plan.loadLVf (D := (D25.at L)) (X := a1) (j := i_72) (sz := 3) (off := 1) h80 ((0 : Int), ([] : List Byte), ([] : List Byte)) (fun b x => .slice b.1.1 x.2.1.length b.1.2) ha1 rfl rfl hc87 rfl (by decide) (fun _ _ => rfl) FLaw11.sc23 fun b88 r88 hs88 hr88 => ?_
          obtain ⟨⟨i88_1, hv88_1⟩, ⟨i88_2, hv88_2⟩⟩ := hs88
          refine Plan.move_slice rfl rfl ?_
          refine Plan.move_int rfl rfl ?_
          obtain ⟨hc89, hR⟩ := hR
          refine Plan.idxLVS (D := (D25.at L)) (j := i_72) h80 hb2 FLaw11.sl22 rfl rfl rfl hc89 ?_
          refine Plan.fieldLV (D := (D25.at L)) (j := i_72) (sz := 3) h80 1 hb2 hc89 FLaw11.fld25_1 rfl rfl ?_
          refine Plan.loadLVf (D := (D25.at L)) (X := b2) (j := i_72) (sz := 3) (off := 1) h80 ((0 : Int), ([] : List Byte), ([] : List Byte)) (fun b x => .slice b.1.1 x.2.1.length b.1.2) hb2 rfl rfl hc89 rfl (by decide) (fun _ _ => rfl) FLaw11.sc23 fun b90 r90 hs90 hr90 => ?_
          obtain ⟨⟨i90_1, hv90_1⟩, ⟨i90_2, hv90_2⟩⟩ := hs90
          obtain ⟨x_92, hr91, hR⟩ := hR
          refine Plan.call (vs := [.slice ((b88.1).1) (((a1.getD i_72 ((0 : Int), ([] : List Byte), ([] : List Byte))).2.1).length) ((b88.1).2), .slice ((b90.1).1) (((b2.getD i_72 ((0 : Int), ([] : List Byte), ([] : List Byte))).2.1).length) ((b90.1).2)]) rfl FLaw11.call17 rfl (lethelaw11_Eq_ok hv88_1 hv90_1 hr91 h80) ?_
          rintro _ w93 ⟨rfl, h93⟩
          refine ⟨_, rfl, .inl ⟨PIn.keep (PIn.cons (ib2 + 0) hr90 (PIn.cons (ia1 + 0) hr88 (PIn.cons (ib2 + 0) hr84 (PIn.cons (ia1 + 0) hr82 PIn.nil)))) h93, ?_⟩⟩
          by_cases hc94 : x_92 = true
          ·
            replace hR := ifT hR hc94
            obtain rfl : x_92 = true := hc94
            refine Plan.notT rfl rfl ?_
            refine Plan.pickFb rfl rfl rfl ?_
            refine Plan.move_bool rfl rfl ?_
            refine Plan.move_slice rfl rfl ?_
            refine Plan.move_int rfl rfl ?_
            obtain ⟨hc95, hR⟩ := hR
            refine Plan.idxLVS (D := (D25.at L)) (j := i_72) h93 ha1 FLaw11.sl22 rfl rfl rfl hc95 ?_
            refine Plan.fieldLV (D := (D25.at L)) (j := i_72) (sz := 3) h93 2 ha1 hc95 FLaw11.fld25_2 rfl rfl ?_
            refine Plan.loadLVf (D := (D25.at L)) (X := a1) (j := i_72) (sz := 3) (off := 2) h93 ((0 : Int), ([] : List Byte), ([] : List Byte)) (fun b x => .slice b.2.1 x.2.2.length b.2.2) ha1 rfl rfl hc95 rfl (by decide) (fun _ _ => rfl) FLaw11.sc23 fun b96 r96 hs96 hr96 => ?_
            obtain ⟨⟨i96_1, hv96_1⟩, ⟨i96_2, hv96_2⟩⟩ := hs96
            refine Plan.move_slice rfl rfl ?_
            refine Plan.move_int rfl rfl ?_
            obtain ⟨hc97, hR⟩ := hR
            refine Plan.idxLVS (D := (D25.at L)) (j := i_72) h93 hb2 FLaw11.sl22 rfl rfl rfl hc97 ?_
            refine Plan.fieldLV (D := (D25.at L)) (j := i_72) (sz := 3) h93 2 hb2 hc97 FLaw11.fld25_2 rfl rfl ?_
            refine Plan.loadLVf (D := (D25.at L)) (X := b2) (j := i_72) (sz := 3) (off := 2) h93 ((0 : Int), ([] : List Byte), ([] : List Byte)) (fun b x => .slice b.2.1 x.2.2.length b.2.2) hb2 rfl rfl hc97 rfl (by decide) (fun _ _ => rfl) FLaw11.sc23 fun b98 r98 hs98 hr98 => ?_
            obtain ⟨⟨i98_1, hv98_1⟩, ⟨i98_2, hv98_2⟩⟩ := hs98
            obtain ⟨x_100, hr99, hR⟩ := hR
            refine Plan.call (vs := [.slice ((b96.2).1) (((a1.getD i_72 ((0 : Int), ([] : List Byte), ([] : List Byte))).2.2).length) ((b96.2).2), .slice ((b98.2).1) (((b2.getD i_72 ((0 : Int), ([] : List Byte), ([] : List Byte))).2.2).length) ((b98.2).2)]) rfl FLaw11.call17 rfl (lethelaw11_Eq_ok hv96_2 hv98_2 hr99 h93) ?_
            rintro _ w101 ⟨rfl, h101⟩
            refine ⟨_, rfl, .inl ⟨PIn.keep (PIn.cons (ib2 + 0) hr98 (PIn.cons (ia1 + 0) hr96 (PIn.cons (ib2 + 0) hr90 (PIn.cons (ia1 + 0) hr88 (PIn.cons (ib2 + 0) hr84 (PIn.cons (ia1 + 0) hr82 PIn.nil)))))) h101, ?_⟩⟩
            refine Plan.not rfl rfl ?_
            refine Plan.pickFb rfl rfl rfl ?_
            refine Plan.nil ?_
            refine hK79 _ _ ?_; clear hK79
            by_cases hc102 : x_100 = true
            ·
              replace hR := ifT hR hc102
              refine W.condF (congrArg Value.bool (congrArg Bool.not hc102)) ?_
              refine W.skip ?_
              refine blockR_norm ?_
              refine hK78 _ _ ?_; clear hK78
              refine W.regionT [(0, true), (1, true), (2, true)] (by kernel_rfl) ?_
              refine Plan.move_int rfl rfl ?_
              obtain ⟨hc103, hR⟩ := hR
              refine Plan.addN (a := i_72) (b := 1) rfl rfl rfl (by omega) ?_
              refine Plan.assign_int rfl rfl ?_
              refine Plan.nil ?_
              exact iterR_norm ⟨_, hR, (EnvHas.cons rfl (EnvHas.cons rfl (EnvHas.cons rfl EnvHas.nil))), h101⟩
            ·
              replace hR := ifF hR hc102
              refine W.condT (congrArg Value.bool (congrArg Bool.not (Bool.eq_false_iff.2 hc102))) ?_
              refine W.seq_k fun K104 hK104 => ?_
              refine W.regionT [(0, true)] (by kernel_rfl) ?_
              refine Plan.assign_bool rfl rfl ?_
              refine Plan.nil ?_
              refine hK104 _ _ ?_; clear hK104
              refine W.ret (blockR_ret (thenR_ret (iterR_ret (blockR_ret (thenR_ret (thenR_ret (finR_ret ?_)))))))
              replace hR := hR.2
              subst r
              refine RetOk.mk (.tmp_bool rfl .nil) ?_
              exact ⟨rfl, h101⟩
          ·
            replace hR := ifF hR hc94
            obtain rfl : x_92 = false := Bool.eq_false_iff.2 hc94
            refine Plan.notF rfl rfl ?_
            refine Plan.pickFb rfl rfl rfl ?_
            refine Plan.move_bool rfl rfl ?_
            refine Plan.passed rfl ?_
            refine Plan.passed rfl ?_
            refine Plan.passed rfl ?_
            refine Plan.passed rfl ?_
            refine Plan.passed rfl ?_
            refine Plan.passed rfl ?_
            refine Plan.passed rfl ?_
            refine Plan.passed rfl ?_
            refine Plan.passed rfl ?_
            refine Plan.passed rfl ?_
            refine Plan.passed rfl ?_
            refine Plan.passed rfl ?_
            refine Plan.pickTb rfl rfl rfl ?_
            refine Plan.nil ?_
            refine hK79 _ _ ?_; clear hK79
            refine W.condT rfl ?_
            refine W.seq_k fun K105 hK105 => ?_
            refine W.regionT [(0, true)] (by kernel_rfl) ?_
            refine Plan.assign_bool rfl rfl ?_
            refine Plan.nil ?_
            refine hK105 _ _ ?_; clear hK105
            refine W.ret (blockR_ret (thenR_ret (iterR_ret (blockR_ret (thenR_ret (thenR_ret (finR_ret ?_)))))))
            replace hR := hR.2
            subst r
            refine RetOk.mk (.tmp_bool rfl .nil) ?_
            exact ⟨rfl, h93⟩
      ·
        replace hR := ifF hR hc77
        refine W.condF (congrArg Value.bool (decide_eq_false hc77)) ?_
        refine W.exit (thenR_exit (iterR_exit (blockR_here ?_)))
        exact ⟨(hx73 _ hR).symm, EnvHas.nil, h74⟩
    ·
      rintro ev106 wl106 ⟨hy106, he106, h106⟩
      obtain ⟨ev106, rfl⟩ := he106.open
      replace hR := hR073  hy106
      refine hK8 _ _ ?_; clear hK8
      refine W.seq_k fun K107 hK107 => ?_
      refine W.regionT [(0, true)] (by kernel_rfl) ?_
      refine Plan.assign_bool rfl rfl ?_
      refine Plan.nil ?_
      refine hK107 _ _ ?_; clear hK107
      refine W.ret (finR_ret ?_)
      subst r
      refine RetOk.mk (.tmp_bool rfl .nil) ?_
      exact ⟨rfl, h106⟩


set_option maxRecDepth 8000 in
set_option maxHeartbeats 1000000 in
theorem lethelaw11_sameInts_ok {B : Nat} {w0 w : World} {L : List Rg} {a1 : List Int} {aa1 : Option Addr} {na1 ca1 ia1 : Nat} (ha1 : LV D3 L ia1 aa1 na1 ca1 a1) {b2 : List Int} {ab2 : Option Addr} {nb2 cb2 ib2 : Nat} (hb2 : LV D3 L ib2 ab2 nb2 cb2 b2) {r : Bool} (hR : lethelaw11_sameInts a1 b2 r) (HST : St B w0 (L) w) :
    Calls Try.prog 28 #[.slice aa1 na1 ca1, .slice ab2 nb2 cb2] w fun e w' => e = .returned (.bool r) ∧ St B w0 (L) w' := by
  refine W.enter 26 Try.func28 rfl rfl rfl ?_
  unfold lethelaw11_sameInts at hR
  have ea1 := ha1.hl; subst ea1
  have eb2 := hb2.hl; subst eb2
  refine W.seq_k fun K3 hK3 => ?_
  refine W.regionT [(0, true)] (by kernel_rfl) ?_
  refine Plan.assign_bool rfl rfl ?_
  refine Plan.nil ?_
  refine hK3 _ _ ?_; clear hK3
  refine W.seq_k fun K4 hK4 => ?_
  refine W.seq_k fun K5 hK5 => ?_
  refine W.regionT [(0, true), (1, true), (2, true), (3, true), (4, true)] (by kernel_rfl) ?_
  refine Plan.move_slice rfl rfl ?_
  refine Plan.len FLaw11.isl43 rfl rfl ?_
  refine Plan.move_slice rfl rfl ?_
  refine Plan.len FLaw11.isl43 rfl rfl ?_
  refine Plan.cmpP (a := (((a1.length : Nat) : Int) : Int)) (b := (((b2.length : Nat) : Int) : Int)) (p := a1.length ≠ b2.length) rfl rfl rfl rfl icmp_neN ?_
  refine Plan.nil ?_
  refine hK5 _ _ ?_; clear hK5
  by_cases hc6 : a1.length ≠ b2.length
  ·
    replace hR := ifT hR hc6
    refine W.condT (congrArg Value.bool (decide_eq_true hc6)) ?_
    refine W.seq_k fun K7 hK7 => ?_
    refine W.regionT [(0, true)] (by kernel_rfl) ?_
    refine Plan.assign_bool rfl rfl ?_
    refine Plan.nil ?_
    refine hK7 _ _ ?_; clear hK7
    refine W.ret (thenR_ret (finR_ret ?_))
    subst r
    refine RetOk.mk (.tmp_bool rfl .nil) ?_
    exact ⟨rfl, HST⟩
  ·
    replace hR := ifF hR hc6
    refine W.condF (congrArg Value.bool (decide_eq_false hc6)) ?_
    refine W.skip ?_
    refine hK4 _ _ ?_; clear hK4
    refine W.seq_k fun K8 hK8 => ?_
    refine W.seq_k fun K9 hK9 => ?_
    refine W.regionT [(0, true)] (by kernel_rfl) ?_
    refine Plan.assign_int rfl rfl ?_
    refine Plan.nil ?_
    refine hK9 _ _ ?_; clear hK9
    obtain ⟨x37, hI37, hR037⟩ := hR
    refine W.cutN (fun e w => x37 = some () ∧ EnvHas e [] ∧ St B w0 (L) w) ?_ ?_
    ·
      refine W.block ?_
      refine W.iter hI37 (fun (s37 : Nat) e w => EnvHas e [(0, .slice aa1 a1.length ca1), (1, .slice ab2 b2.length cb2), (5, VN s37)] ∧ St B w0 (L) w) ⟨(EnvHas.cons rfl (EnvHas.cons rfl (EnvHas.cons rfl EnvHas.nil))), HST⟩ ?_
      rintro i_36 o37 hR hx37 ev38 wl38 ⟨he38, h38⟩
      obtain ⟨ev38, rfl⟩ := he38.open
      unfold lethelaw11_sameInts_l0 at hR
      refine W.seq_k fun K39 hK39 => ?_
      refine W.seq_k fun K40 hK40 => ?_
      refine W.regionT [(0, true), (1, true), (2, true), (3, true)] (by kernel_rfl) ?_
      refine Plan.move_int rfl rfl ?_
      refine Plan.move_slice rfl rfl ?_
      refine Plan.len FLaw11.isl43 rfl rfl ?_
      refine Plan.cmpP (a := (((i_36 : Nat) : Int) : Int)) (b := (((a1.length : Nat) : Int) : Int)) (p := i_36 < a1.length) rfl rfl rfl rfl icmp_ltN ?_
      refine Plan.nil ?_
      refine hK40 _ _ ?_; clear hK40
      by_cases hc41 : i_36 < a1.length
      ·
        replace hR := ifT hR hc41
        refine W.condT (congrArg Value.bool (decide_eq_true hc41)) ?_
        refine W.skip ?_
        refine hK39 _ _ ?_; clear hK39
        refine W.seq_k fun K42 hK42 => ?_
        refine W.block ?_
        refine W.seq_k fun K43 hK43 => ?_
        refine W.regionD FLaw11.mixed [(0, true), (1, true), (2, true), (3, true), (4, true), (5, true), (6, true), (7, true), (8, true)] (by kernel_rfl) ?_
        have h44 := h38.drew
        refine Plan.move_slice rfl rfl ?_
        refine Plan.move_int rfl rfl ?_
        obtain ⟨hc45, hR⟩ := hR
        refine Plan.idxLVS (D := D3) (j := i_36) h44 ha1 FLaw11.sl43 rfl rfl rfl hc45 ?_
        refine Plan.loadLV1 (D := D3) (X := a1) (j := i_36) h44 (0 : Int) (fun _ x => .int .i64 x) ha1 rfl rfl hc45 rfl (fun _ _ => rfl) FLaw11.sc3 fun b46 r46 hs46 hr46 => ?_
        refine Plan.move_slice rfl rfl ?_
        refine Plan.move_int rfl rfl ?_
        obtain ⟨hc47, hR⟩ := hR
        refine Plan.idxLVS (D := D3) (j := i_36) h44 hb2 FLaw11.sl43 rfl rfl rfl hc47 ?_
        refine Plan.loadLV1 (D := D3) (X := b2) (j := i_36) h44 (0 : Int) (fun _ x => .int .i64 x) hb2 rfl rfl hc47 rfl (fun _ _ => rfl) FLaw11.sc3 fun b48 r48 hs48 hr48 => ?_
        refine Plan.cmpP (a := ((a1.getD i_36 (0 : Int)) : Int)) (b := ((b2.getD i_36 (0 : Int)) : Int)) (p := (a1.getD i_36 (0 : Int)) ≠ (b2.getD i_36 (0 : Int))) rfl rfl rfl rfl icmp_ne ?_
        refine Plan.nil ?_
        refine hK43 _ _ ?_; clear hK43
        by_cases hc49 : (a1.getD i_36 (0 : Int)) ≠ (b2.getD i_36 (0 : Int))
        ·
          replace hR := ifT hR hc49
          refine W.condT (congrArg Value.bool (decide_eq_true hc49)) ?_
          refine W.seq_k fun K50 hK50 => ?_
          refine W.regionT [(0, true)] (by kernel_rfl) ?_
          refine Plan.assign_bool rfl rfl ?_
          refine Plan.nil ?_
          refine hK50 _ _ ?_; clear hK50
          refine W.ret (blockR_ret (thenR_ret (iterR_ret (blockR_ret (thenR_ret (thenR_ret (finR_ret ?_)))))))
          replace hR := hR.2
          subst r
          refine RetOk.mk (.tmp_bool rfl .nil) ?_
          exact ⟨rfl, h44⟩
        ·
          replace hR := ifF hR hc49
          refine W.condF (congrArg Value.bool (decide_eq_false hc49)) ?_
          refine W.skip ?_
          refine blockR_norm ?_
          refine hK42 _ _ ?_; clear hK42
          refine W.regionT [(0, true), (1, true), (2, true)] (by kernel_rfl) ?_
          refine Plan.move_int rfl rfl ?_
          obtain ⟨hc51, hR⟩ := hR
          refine Plan.addN (a := i_36) (b := 1) rfl rfl rfl (by omega) ?_
          refine Plan.assign_int rfl rfl ?_
          refine Plan.nil ?_
          exact iterR_norm ⟨_, hR, (EnvHas.cons rfl (EnvHas.cons rfl (EnvHas.cons rfl EnvHas.nil))), h44⟩
      ·
        replace hR := ifF hR hc41
        refine W.condF (congrArg Value.bool (decide_eq_false hc41)) ?_
        refine W.exit (thenR_exit (iterR_exit (blockR_here ?_)))
        exact ⟨(hx37 _ hR).symm, EnvHas.nil, h38⟩
    ·
      rintro ev52 wl52 ⟨hy52, he52, h52⟩
      obtain ⟨ev52, rfl⟩ := he52.open
      replace hR := hR037  hy52
      refine hK8 _ _ ?_; clear hK8
      refine W.seq_k fun K53 hK53 => ?_
      refine W.regionT [(0, true)] (by kernel_rfl) ?_
      refine Plan.assign_bool rfl rfl ?_
      refine Plan.nil ?_
      refine hK53 _ _ ?_; clear hK53
      refine W.ret (finR_ret ?_)
      subst r
      refine RetOk.mk (.tmp_bool rfl .nil) ?_
      exact ⟨rfl, h52⟩


set_option maxRecDepth 8000 in
set_option maxHeartbeats 1000000 in
theorem lethelaw11_blank_ok {B : Nat} {w0 w : World} {L : List Rg} {rTable1 : Int} {rKey2 : List Byte} {arKey2 : Option Addr} {nrKey2 crKey2 irKey2 : Nat} (hrKey2 : Bx L irKey2 arKey2 nrKey2 crKey2 rKey2) {rValue3 : List Byte} {arValue3 : Option Addr} {nrValue3 crValue3 irValue3 : Nat} (hrValue3 : Bx L irValue3 arValue3 nrValue3 crValue3 rValue3) {r : Bool} (hR : lethelaw11_blank rTable1 rKey2 rValue3 r) (HST : St B w0 (L) w) :
    Calls Try.prog 24 #[AG [(1, fun _ => .int .i64 rTable1), (1, fun _ => .slice arKey2 nrKey2 crKey2), (1, fun _ => .slice arValue3 nrValue3 crValue3)]] w fun e w' => e = .returned (.bool r) ∧ St B w0 (L) w' := by
  refine W.enter 7 Try.func24 rfl rfl rfl ?_
  unfold lethelaw11_blank at hR
  have erKey2 := hrKey2.hl; subst erKey2
  have erValue3 := hrValue3.hl; subst erValue3
  refine W.seq_k fun K4 hK4 => ?_
  refine W.regionT [(0, false), (1, true)] (by kernel_rfl) ?_
  refine Plan.boxA HST rfl rfl PIn.nil fun b5 w5 hb5 h5 => ?_
  simp only [rngs, Nat.zero_add, Nat.reduceAdd, List.cons_append, List.nil_append] at h5
  refine Plan.assign_bool rfl rfl ?_
  refine Plan.nil ?_
  refine hK4 _ _ ?_; clear hK4
  refine W.seq_k fun K6 hK6 => ?_
  refine W.regionT [(0, true), (1, true), (2, true), (3, true), (4, true)] (by kernel_rfl) ?_
  refine Plan.fieldAddr 1 FLaw11.fld25_1 rfl rfl ?_
  refine Plan.load0 h5 1 rfl rfl rfl (by omega) FLaw11.sc23 ?_
  refine Plan.len FLaw11.isl23 rfl rfl ?_
  refine Plan.cmpP (a := (((rKey2.length : Nat) : Int) : Int)) (b := (0 : Int)) (p := rKey2.length = 0) rfl rfl rfl rfl icmp_eqN ?_
  refine Plan.assign_bool rfl rfl ?_
  refine Plan.nil ?_
  refine hK6 _ _ ?_; clear hK6
  refine W.ret (finR_ret ?_)
  have h7 := St.pickT (C := [_, _, _]) h5 [] (by decide)
  simp only [pick, List.filterMap_cons, List.filterMap_nil, List.getElem?_cons_zero, List.getElem?_cons_succ, List.cons_append, List.nil_append] at h7
  subst r
  refine RetOk.mk (.tmp_bool rfl .nil) ?_
  exact ⟨rfl, h7⟩

end Go.Proofs.Ytbkgblhmlenocaa
