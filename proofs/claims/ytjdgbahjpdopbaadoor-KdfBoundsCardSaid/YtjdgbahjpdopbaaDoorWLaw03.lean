/-
  WALKS of the package's functions, printed by this session's own program (auto.py).
-/
import Derived.Test.YtjdgbahjpdopbaaDoorProg
import Derived.Test.YtjdgbahjpdopbaaDoorLx9
import Derived.Test.YtjdgbahjpdopbaaDoorRLaw03
import Derived.Test.YtjdgbahjpdopbaaDoorEls
import Derived.Test.YtjdgbahjpdopbaaDoorWKdf
namespace Go.Proofs.YtjdgbahjpdopbaaDoor
set_option linter.unusedSimpArgs false
set_option linter.unusedVariables false
set_option linter.unusedSectionVars false
open Go Go.LW
theorem FLaw03.slu22 : Tryd.prog.underlying 22 = some (.slice 5) := by kernel_rfl
theorem FLaw03.u5 : Tryd.prog.underlying 5 = some (.int .u8) := by kernel_rfl
theorem FLaw03.sz5 : szT Tryd.prog 5 1 = true := by kernel_rfl
theorem FLaw03.zv5 : (Tryd.prog.info? 5).bind (·.zero) = some (VU .u8 0#8) := by kernel_rfl
theorem FLaw03.zv22 : (Tryd.prog.info? 22).bind (·.zero) = some (.slice none 0 0) := by kernel_rfl
theorem FLaw03.slu75 : Tryd.prog.underlying 75 = some (.slice 22) := by kernel_rfl
theorem FLaw03.sz22 : szT Tryd.prog 22 1 = true := by kernel_rfl
theorem FLaw03.z32 : zeroIs Tryd.prog 32 [(32, fun _ => VU .u8 0#8)] := zeroIs_agg (by kernel_rfl)
theorem FLaw03.isl22 : ∃ el, Tryd.prog.underlying 22 = some (.slice el) := ⟨5, by kernel_rfl⟩
theorem FLaw03.sl22 : slB Tryd.prog 22 1 = true := by kernel_rfl
theorem FLaw03.sc5 : scalarT Tryd.prog 5 = true := by kernel_rfl
theorem FLaw03.arr32 : arrB Tryd.prog 32 32 1 = true := by kernel_rfl
theorem FLaw03.sz32 : szT Tryd.prog 32 32 = true := by kernel_rfl
theorem FLaw03.call36 : callB Tryd.prog 36 = true := by kernel_rfl
theorem FLaw03.str9 : Tryd.prog.underlying 9 = some .string := by kernel_rfl

set_option maxRecDepth 8000 in
set_option maxHeartbeats 1000000 in
theorem lethelaw03_awake_ok {B : Nat} {w0 w : World} {L : List Rg} {iG0 : Nat} (hG0 : L[iG0]? = some ⟨some 0, 0, 64, fun q => VU .u32 (K256 q), false⟩) {iG1 : Nat} (hG1 : L[iG1]? = some ⟨some 1, 0, 8, fun q => VU .u32 (H256 q), false⟩)  {r : Bool} (hR : lethelaw03_awake r) (HST : St B w0 (L) w) :
    Calls Tryd.prog 32 #[] w fun e w' => e = .returned (.bool r) ∧ St B w0 (L) w' := by
  refine W.enter 21 Tryd.func32 rfl rfl rfl ?_
  unfold lethelaw03_awake at hR
  refine W.seq_k fun K1 hK1 => ?_
  refine W.regionT [(0, true)] (by kernel_rfl) ?_
  refine Plan.assign_bool rfl rfl ?_
  refine Plan.nil ?_
  refine hK1 _ _ ?_; clear hK1
  refine W.seq_k fun K2 hK2 => ?_
  refine W.regionT [(0, false), (1, false), (2, false), (3, false), (4, false), (5, false), (6, false), (7, false)] (by kernel_rfl) ?_
  refine Plan.constBytesO PIn.nil HST (f := fun q => VU .u8 (lit ([74#8, 101#8, 102#8, 101#8] : List Byte) q)) FLaw03.slu22 FLaw03.u5 FLaw03.sz5 FLaw03.zv5 (by decide) (by decide) rfl (fun _ => rfl) (fun _ => rfl) rfl (by kernel_rfl) fun b3 w3 hb3 h3 => ?_
  refine Plan.constBytesO PIn.nil h3 (f := fun q => VU .u8 (lit ([119#8, 104#8, 97#8, 116#8, 32#8, 100#8, 111#8, 32#8, 121#8, 97#8, 32#8, 119#8, 97#8, 110#8, 116#8, 32#8, 102#8, 111#8, 114#8, 32#8, 110#8, 111#8, 116#8, 104#8, 105#8, 110#8, 103#8, 63#8] : List Byte) q)) FLaw03.slu22 FLaw03.u5 FLaw03.sz5 FLaw03.zv5 (by decide) (by decide) rfl (fun _ => rfl) (fun _ => rfl) rfl (by kernel_rfl) fun b4 w4 hb4 h4 => ?_
  refine Plan.buildSlice h4 (ps := [(1, fun i => .slice ((fun i => ([some ⟨b4, 0, none⟩] : List (Option Addr)).getD i none) i) ((fun i => ([28] : List Nat).getD i 0) i) ((fun i => ([28] : List Nat).getD i 0) i))]) FLaw03.slu75 FLaw03.sz22 FLaw03.zv22 (by decide) (by decide) rfl rfl rfl (EffO.keep PIn.nil) fun b6 w6 hb6 h6 => ?_
  simp only [rngs, List.cons_append, List.nil_append] at h6
  obtain ⟨x_8, hr7, hR⟩ := hR
  refine Plan.call (vs := [.slice (some ⟨b3, 0, none⟩) 4 4, .slice (some ⟨b6, 0, none⟩) 1 1]) rfl FLaw03.call36 rfl (kdf_Mac_ok (iG0 := iG0 + 3) hG0 (iG1 := iG1 + 3) hG1 (by exact (Bx.arr0 (n := 4) (cc := 4) 2 rfl (by omega) (by omega))) (by exact (Bss.of 0 rfl rfl (fun i hi => match i, hi with | 0, _ => ⟨_, (Bx.arr0 (n := 28) (cc := 28) 1 rfl (by omega) (by omega))⟩ | k + 1, hk => absurd hk (by omega)))) hr7 h6) ?_
  rintro _ w9 ⟨rfl, h9⟩
  refine ⟨_, rfl, .inl ⟨PIn.keep PIn.nil h9, ?_⟩⟩
  refine Plan.alloc h9 rfl FLaw03.z32 PIn.nil fun b10 w10 hb10 h10 => ?_
  simp only [rngs, Nat.zero_add, Nat.reduceAdd, List.cons_append, List.nil_append] at h10
  refine Plan.storeA (f' := fun q => VU .u8 (x_8 q)) h10 0 rfl rfl rfl rfl (fun _ _ => rfl) FLaw03.sz32 rfl fun w11 h11 => ?_
  simp only [List.cons_append, List.nil_append, List.set_cons_zero, List.set_cons_succ] at h11
  refine Plan.nil ?_
  refine hK2 _ _ ?_; clear hK2
  refine W.seq_k fun K12 hK12 => ?_
  refine W.regionT [(0, true), (1, true), (2, true), (3, true), (4, true), (5, true), (6, true), (7, true), (8, true), (9, true), (10, true), (11, true), (12, true), (13, true)] (by kernel_rfl) ?_
  refine Plan.idxArr1 (j := 0) FLaw03.arr32 rfl rfl rfl (by omega) ?_
  refine Plan.load1 (j := 0) h11 0 rfl rfl rfl (by omega) FLaw03.sc5 ?_
  by_cases hc13 : (x_8 0) = 91#8
  ·
    replace hR := ifT hR hc13
    refine Plan.cmpV (a := ((x_8 0).toNat : Int)) (b := ((91#8).toNat : Int)) (p := (x_8 0) = 91#8) (v := true) rfl rfl rfl rfl icmp_eqU (decide_eq_true hc13) ?_
    refine Plan.move_bool rfl rfl ?_
    refine Plan.idxArr1 (j := 1) FLaw03.arr32 rfl rfl rfl (by omega) ?_
    refine Plan.load1 (j := 1) h11 0 rfl rfl rfl (by omega) FLaw03.sc5 ?_
    by_cases hc14 : (x_8 1) = 220#8
    ·
      replace hR := ifT hR hc14
      refine Plan.cmpV (a := ((x_8 1).toNat : Int)) (b := ((220#8).toNat : Int)) (p := (x_8 1) = 220#8) (v := true) rfl rfl rfl rfl icmp_eqU (decide_eq_true hc14) ?_
      refine Plan.pickTb rfl rfl rfl ?_
      refine Plan.move_bool rfl rfl ?_
      refine Plan.idxArr1 (j := 31) FLaw03.arr32 rfl rfl rfl (by omega) ?_
      refine Plan.load1 (j := 31) h11 0 rfl rfl rfl (by omega) FLaw03.sc5 ?_
      refine Plan.cmpP (a := ((x_8 31).toNat : Int)) (b := ((67#8).toNat : Int)) (p := (x_8 31) = 67#8) rfl rfl rfl rfl icmp_eqU ?_
      refine Plan.pickTb rfl rfl rfl ?_
      refine Plan.assign_bool rfl rfl ?_
      refine Plan.nil ?_
      refine hK12 _ _ ?_; clear hK12
      refine W.ret (finR_ret ?_)
      have h15 := St.pickT (C := [_, _, _, _]) h11 [] (by decide)
      simp only [pick, List.filterMap_cons, List.filterMap_nil, List.getElem?_cons_zero, List.getElem?_cons_succ, List.cons_append, List.nil_append] at h15
      subst r
      refine RetOk.mk (.tmp_bool rfl .nil) ?_
      exact ⟨rfl, h15⟩
    ·
      replace hR := ifF hR hc14
      refine Plan.cmpV (a := ((x_8 1).toNat : Int)) (b := ((220#8).toNat : Int)) (p := (x_8 1) = 220#8) (v := false) rfl rfl rfl rfl icmp_eqU (decide_eq_false hc14) ?_
      refine Plan.pickTb rfl rfl rfl ?_
      refine Plan.move_bool rfl rfl ?_
      refine Plan.passed rfl ?_
      refine Plan.passed rfl ?_
      refine Plan.passed rfl ?_
      refine Plan.pickFb rfl rfl rfl ?_
      refine Plan.assign_bool rfl rfl ?_
      refine Plan.nil ?_
      refine hK12 _ _ ?_; clear hK12
      refine W.ret (finR_ret ?_)
      have h16 := St.pickT (C := [_, _, _, _]) h11 [] (by decide)
      simp only [pick, List.filterMap_cons, List.filterMap_nil, List.getElem?_cons_zero, List.getElem?_cons_succ, List.cons_append, List.nil_append] at h16
      subst r
      refine RetOk.mk (.tmp_bool rfl .nil) ?_
      exact ⟨rfl, h16⟩
  ·
    replace hR := ifF hR hc13
    refine Plan.cmpV (a := ((x_8 0).toNat : Int)) (b := ((91#8).toNat : Int)) (p := (x_8 0) = 91#8) (v := false) rfl rfl rfl rfl icmp_eqU (decide_eq_false hc13) ?_
    refine Plan.move_bool rfl rfl ?_
    refine Plan.passed rfl ?_
    refine Plan.passed rfl ?_
    refine Plan.passed rfl ?_
    refine Plan.pickFb rfl rfl rfl ?_
    refine Plan.move_bool rfl rfl ?_
    refine Plan.passed rfl ?_
    refine Plan.passed rfl ?_
    refine Plan.passed rfl ?_
    refine Plan.pickFb rfl rfl rfl ?_
    refine Plan.assign_bool rfl rfl ?_
    refine Plan.nil ?_
    refine hK12 _ _ ?_; clear hK12
    refine W.ret (finR_ret ?_)
    have h17 := St.pickT (C := [_, _, _, _]) h11 [] (by decide)
    simp only [pick, List.filterMap_cons, List.filterMap_nil, List.getElem?_cons_zero, List.getElem?_cons_succ, List.cons_append, List.nil_append] at h17
    subst r
    refine RetOk.mk (.tmp_bool rfl .nil) ?_
    exact ⟨rfl, h17⟩


set_option maxRecDepth 8000 in
set_option maxHeartbeats 1000000 in
theorem lethelaw03_short_ok {B : Nat} {w0 w : World} {L : List Rg} {b1 : List Byte} {ab1 : Option Addr} {nb1 cb1 ib1 : Nat} (hb1 : Bx L ib1 ab1 nb1 cb1 b1) {r : (List Byte)} (hR : lethelaw03_short b1 r) (HST : St B w0 (L) w) :
    Calls Tryd.prog 33 #[.slice ab1 nb1 cb1] w fun e w' => ∃ ay0 : Option Addr, ∃ ny0 : Nat, ∃ cy0 : Nat, e = .returned (.slice ay0 ny0 cy0) ∧ St B w0 (L) w' ∧ Bx L ib1 ay0 ny0 cy0 r := by
  refine W.enter 9 Tryd.func33 rfl rfl rfl ?_
  unfold lethelaw03_short at hR
  have eb1 := hb1.hl; subst eb1
  refine W.seq_k fun K2 hK2 => ?_
  refine W.regionT [(0, true)] (by kernel_rfl) ?_
  refine Plan.assign_slice rfl rfl ?_
  refine Plan.nil ?_
  refine hK2 _ _ ?_; clear hK2
  refine W.seq_k fun K3 hK3 => ?_
  refine W.seq_k fun K4 hK4 => ?_
  refine W.regionT [(0, true), (1, true), (2, true)] (by kernel_rfl) ?_
  refine Plan.move_slice rfl rfl ?_
  refine Plan.len FLaw03.isl22 rfl rfl ?_
  refine Plan.cmpP (a := (((b1.length : Nat) : Int) : Int)) (b := (400 : Int)) (p := 400 < b1.length) rfl rfl rfl rfl icmp_gtN ?_
  refine Plan.nil ?_
  refine hK4 _ _ ?_; clear hK4
  by_cases hc5 : 400 < b1.length
  ·
    replace hR := ifT hR hc5
    refine W.condT (congrArg Value.bool (decide_eq_true hc5)) ?_
    refine W.seq_k fun K6 hK6 => ?_
    refine W.regionT [(0, true), (1, true), (2, true)] (by kernel_rfl) ?_
    refine Plan.move_slice rfl rfl ?_
    obtain ⟨hc7, hR⟩ := hR
    refine Plan.slV (lo := 0) (hi := 400) hb1 FLaw03.sl22 rfl rfl rfl ⟨_, rfl⟩ hc7 fun a8 c8 hv8 => ?_
    refine Plan.assign_slice rfl rfl ?_
    refine Plan.nil ?_
    refine hK6 _ _ ?_; clear hK6
    refine W.ret (thenR_ret (finR_ret ?_))
    subst r
    refine RetOk.mk (.tmp_slice rfl .nil) ?_
    exact ⟨a8, (seg b1 0 400).length, c8, rfl, HST, hv8⟩
  ·
    replace hR := ifF hR hc5
    refine W.condF (congrArg Value.bool (decide_eq_false hc5)) ?_
    refine W.skip ?_
    refine hK3 _ _ ?_; clear hK3
    refine W.seq_k fun K9 hK9 => ?_
    refine W.regionT [(0, true), (1, true)] (by kernel_rfl) ?_
    refine Plan.move_slice rfl rfl ?_
    refine Plan.assign_slice rfl rfl ?_
    refine Plan.nil ?_
    refine hK9 _ _ ?_; clear hK9
    refine W.ret (finR_ret ?_)
    subst r
    refine RetOk.mk (.tmp_slice rfl .nil) ?_
    exact ⟨ab1, b1.length, cb1, rfl, HST, hb1⟩


set_option maxRecDepth 8000 in
set_option maxHeartbeats 1000000 in
theorem lethelaw03_rest_ok {B : Nat} {w0 w : World} {L : List Rg} {n_1 : Int} {m2 : Int} {r : Int} (hR : lethelaw03_rest n_1 m2 r) (HST : St B w0 (L) w) :
    Calls Tryd.prog 34 #[.int .i64 n_1, .int .i64 m2] w fun e w' => e = .returned (.int .i64 r) ∧ St B w0 (L) w' := by
  refine W.enter 12 Tryd.func34 rfl rfl rfl ?_
  unfold lethelaw03_rest at hR
  refine W.seq_k fun K3 hK3 => ?_
  refine W.regionT [(0, true)] (by kernel_rfl) ?_
  refine Plan.assign_int rfl rfl ?_
  refine Plan.nil ?_
  refine hK3 _ _ ?_; clear hK3
  refine W.seq_k fun K4 hK4 => ?_
  refine W.regionT [(0, true), (1, true), (2, true), (3, true), (4, true), (5, true), (6, true), (7, true)] (by kernel_rfl) ?_
  refine Plan.move_int rfl rfl ?_
  refine Plan.move_int rfl rfl ?_
  obtain ⟨hc5, hR⟩ := hR
  refine Plan.remI (a := n_1) (b := m2) rfl rfl rfl hc5 ?_
  refine Plan.move_int rfl rfl ?_
  obtain ⟨hc6, hR⟩ := hR
  refine Plan.addI (a := (n_1.tmod m2)) (b := m2) rfl rfl rfl (by omega) ?_
  refine Plan.move_int rfl rfl ?_
  obtain ⟨hc7, hR⟩ := hR
  refine Plan.remI (a := ((n_1.tmod m2) + m2)) (b := m2) rfl rfl rfl hc7 ?_
  refine Plan.assign_int rfl rfl ?_
  refine Plan.nil ?_
  refine hK4 _ _ ?_; clear hK4
  refine W.ret (finR_ret ?_)
  subst r
  refine RetOk.mk (.tmp_int rfl .nil) ?_
  exact ⟨rfl, HST⟩


set_option maxRecDepth 8000 in
set_option maxHeartbeats 1000000 in
theorem lethelaw03_Eq_ok {B : Nat} {w0 w : World} {L : List Rg} {a1 : List Byte} {aa1 : Option Addr} {na1 ca1 ia1 : Nat} (ha1 : Bx L ia1 aa1 na1 ca1 a1) {b2 : List Byte} {ab2 : Option Addr} {nb2 cb2 ib2 : Nat} (hb2 : Bx L ib2 ab2 nb2 cb2 b2) {r : Bool} (hR : lethelaw03_Eq a1 b2 r) (HST : St B w0 (L) w) :
    Calls Tryd.prog 41 #[.slice aa1 na1 ca1, .slice ab2 nb2 cb2] w fun e w' => e = .returned (.bool r) ∧ St B w0 (L) w' := by
  refine W.enter 10 Tryd.func41 rfl rfl rfl ?_
  unfold lethelaw03_Eq at hR
  have ea1 := ha1.hl; subst ea1
  have eb2 := hb2.hl; subst eb2
  refine W.seq_k fun K3 hK3 => ?_
  refine W.regionT [(0, true)] (by kernel_rfl) ?_
  refine Plan.assign_bool rfl rfl ?_
  refine Plan.nil ?_
  refine hK3 _ _ ?_; clear hK3
  refine W.seq_k fun K4 hK4 => ?_
  refine W.regionT [(0, true), (1, true), (2, true), (3, true), (4, true), (5, true)] (by kernel_rfl) ?_
  refine Plan.move_slice rfl rfl ?_
  refine Plan.toStrV HST ha1 FLaw03.slu22 FLaw03.u5 FLaw03.str9 rfl rfl fun r5 hr5 => ?_
  refine Plan.move_slice rfl rfl ?_
  refine Plan.toStrV HST hb2 FLaw03.slu22 FLaw03.u5 FLaw03.str9 rfl rfl fun r6 hr6 => ?_
  refine Plan.eqStrV (v := decide (a1 = b2)) rfl rfl rfl rfl ?_
  refine Plan.assign_bool rfl rfl ?_
  refine Plan.nil ?_
  refine hK4 _ _ ?_; clear hK4
  refine W.ret (finR_ret ?_)
  subst r
  refine RetOk.mk (.tmp_bool rfl .nil) ?_
  exact ⟨rfl, HST⟩

end Go.Proofs.YtjdgbahjpdopbaaDoor
