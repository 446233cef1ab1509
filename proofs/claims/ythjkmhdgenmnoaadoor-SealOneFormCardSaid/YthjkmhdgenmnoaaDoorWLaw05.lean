/-
  WALKS of the package's functions, printed by this session's own program (auto.py).
-/
import Derived.Test.YthjkmhdgenmnoaaDoorProg
import Derived.Test.YthjkmhdgenmnoaaDoorLx6
import Derived.Test.YthjkmhdgenmnoaaDoorRLaw05
import Derived.Test.YthjkmhdgenmnoaaDoorWKdf
namespace Go.Proofs.YthjkmhdgenmnoaaDoor
set_option linter.unusedSimpArgs false
set_option linter.unusedVariables false
set_option linter.unusedSectionVars false
open Go Go.LW
theorem FLaw05.isl24 : ∃ el, Tryd.prog.underlying 24 = some (.slice el) := ⟨5, by kernel_rfl⟩
theorem FLaw05.sl24 : slB Tryd.prog 24 1 = true := by kernel_rfl
theorem FLaw05.z31 : zeroIs Tryd.prog 31 [(16, fun _ => VU .u8 0#8)] := zeroIs_agg (by kernel_rfl)
theorem FLaw05.mixed : Tryd.prog.follows .mixedOrders = true := by kernel_rfl
theorem FLaw05.arr23 : arrB Tryd.prog 23 32 1 = true := by kernel_rfl
theorem FLaw05.el24 : elD Tryd.prog 24 = some (1, 1, some (VU .u8 0#8)) := by kernel_rfl
theorem FLaw05.slu24 : Tryd.prog.underlying 24 = some (.slice 5) := by kernel_rfl
theorem FLaw05.u5 : Tryd.prog.underlying 5 = some (.int .u8) := by kernel_rfl
theorem FLaw05.sz5 : szT Tryd.prog 5 1 = true := by kernel_rfl
theorem FLaw05.zv5 : (Tryd.prog.info? 5).bind (·.zero) = some (VU .u8 0#8) := by kernel_rfl
theorem FLaw05.z58 : zeroIs Tryd.prog 58 [(32, fun _ => VU .u8 0#8)] := zeroIs_agg (by kernel_rfl)
theorem FLaw05.zv24 : (Tryd.prog.info? 24).bind (·.zero) = some (.slice none 0 0) := by kernel_rfl
theorem FLaw05.slu40 : Tryd.prog.underlying 40 = some (.slice 24) := by kernel_rfl
theorem FLaw05.sz24 : szT Tryd.prog 24 1 = true := by kernel_rfl
theorem FLaw05.some3 : (Tryd.prog.underlying 3).isSome = true := by kernel_rfl
theorem FLaw05.arr58 : arrB Tryd.prog 58 32 1 = true := by kernel_rfl
theorem FLaw05.sz58 : szT Tryd.prog 58 32 = true := by kernel_rfl
theorem FLaw05.call26 : callB Tryd.prog 26 = true := by kernel_rfl
theorem FLaw05.call25 : callB Tryd.prog 25 = true := by kernel_rfl
theorem FLaw05.agg31 : aggT Tryd.prog 31 16 = true := by kernel_rfl
theorem FLaw05.sz31 : szT Tryd.prog 31 16 = true := by kernel_rfl
theorem FLaw05.arru31 : Tryd.prog.underlying 31 = some (.array 16 5) := by kernel_rfl
theorem FLaw05.str9 : Tryd.prog.underlying 9 = some .string := by kernel_rfl
theorem FLaw05.row31 : rowB Tryd.prog 31 = true := by kernel_rfl

set_option maxRecDepth 8000 in
set_option maxHeartbeats 1000000 in
theorem lethelaw05_short_ok {B : Nat} {w0 w : World} {L : List Rg} {b1 : List Byte} {ab1 : Option Addr} {nb1 cb1 ib1 : Nat} (hb1 : Bx L ib1 ab1 nb1 cb1 b1) {most2 : Int} {r : (List Byte)} (hR : lethelaw05_short b1 most2 r) (HST : St B w0 (L) w) :
    Calls Tryd.prog 9 #[.slice ab1 nb1 cb1, .int .i64 most2] w fun e w' => ∃ ay0 : Option Addr, ∃ ny0 : Nat, ∃ cy0 : Nat, e = .returned (.slice ay0 ny0 cy0) ∧ St B w0 (L) w' ∧ Bx L ib1 ay0 ny0 cy0 r := by
  refine W.enter 13 Tryd.func9 rfl rfl rfl ?_
  unfold lethelaw05_short at hR
  have eb1 := hb1.hl; subst eb1
  refine W.seq_k fun K3 hK3 => ?_
  refine W.regionT [(0, true)] (by kernel_rfl) ?_
  refine Plan.assign_slice rfl rfl ?_
  refine Plan.nil ?_
  refine hK3 _ _ ?_; clear hK3
  refine W.seq_k fun K4 hK4 => ?_
  refine W.seq_k fun K5 hK5 => ?_
  refine W.regionT [(0, true), (1, true), (2, true), (3, true)] (by kernel_rfl) ?_
  refine Plan.move_slice rfl rfl ?_
  refine Plan.len FLaw05.isl24 rfl rfl ?_
  refine Plan.move_int rfl rfl ?_
  refine Plan.cmpP (a := (((b1.length : Nat) : Int) : Int)) (b := (most2 : Int)) (p := most2 < ((b1.length : Nat) : Int)) rfl rfl rfl rfl icmp_gt ?_
  refine Plan.nil ?_
  refine hK5 _ _ ?_; clear hK5
  by_cases hc6 : most2 < ((b1.length : Nat) : Int)
  ·
    replace hR := ifT hR hc6
    refine W.condT (congrArg Value.bool (decide_eq_true hc6)) ?_
    refine W.seq_k fun K7 hK7 => ?_
    refine W.regionT [(0, true), (1, true), (2, true), (3, true)] (by kernel_rfl) ?_
    refine Plan.move_slice rfl rfl ?_
    refine Plan.move_int rfl rfl ?_
    obtain ⟨hc8, hR⟩ := hR
    obtain ⟨hc9, hR⟩ := hR
    refine Plan.slV (lo := 0) (hi := most2.toNat) hb1 FLaw05.sl24 rfl rfl rfl ⟨_, congrArg (Value.int .i64) (Int.toNat_of_nonneg hc8).symm⟩ hc9 fun a10 c10 hv10 => ?_
    refine Plan.assign_slice rfl rfl ?_
    refine Plan.nil ?_
    refine hK7 _ _ ?_; clear hK7
    refine W.ret (thenR_ret (finR_ret ?_))
    subst r
    refine RetOk.mk (.tmp_slice rfl .nil) ?_
    exact ⟨a10, (seg b1 0 most2.toNat).length, c10, rfl, HST, hv10⟩
  ·
    replace hR := ifF hR hc6
    refine W.condF (congrArg Value.bool (decide_eq_false hc6)) ?_
    refine W.skip ?_
    refine hK4 _ _ ?_; clear hK4
    refine W.seq_k fun K11 hK11 => ?_
    refine W.regionT [(0, true), (1, true)] (by kernel_rfl) ?_
    refine Plan.move_slice rfl rfl ?_
    refine Plan.assign_slice rfl rfl ?_
    refine Plan.nil ?_
    refine hK11 _ _ ?_; clear hK11
    refine W.ret (finR_ret ?_)
    subst r
    refine RetOk.mk (.tmp_slice rfl .nil) ?_
    exact ⟨ab1, b1.length, cb1, rfl, HST, hb1⟩


set_option maxRecDepth 8000 in
set_option maxHeartbeats 1000000 in
theorem lethelaw05_Eq_ok {B : Nat} {w0 w : World} {L : List Rg} {a1 : List Byte} {aa1 : Option Addr} {na1 ca1 ia1 : Nat} (ha1 : Bx L ia1 aa1 na1 ca1 a1) {b2 : List Byte} {ab2 : Option Addr} {nb2 cb2 ib2 : Nat} (hb2 : Bx L ib2 ab2 nb2 cb2 b2) {r : Bool} (hR : lethelaw05_Eq a1 b2 r) (HST : St B w0 (L) w) :
    Calls Tryd.prog 14 #[.slice aa1 na1 ca1, .slice ab2 nb2 cb2] w fun e w' => e = .returned (.bool r) ∧ St B w0 (L) w' := by
  refine W.enter 10 Tryd.func14 rfl rfl rfl ?_
  unfold lethelaw05_Eq at hR
  have ea1 := ha1.hl; subst ea1
  have eb2 := hb2.hl; subst eb2
  refine W.seq_k fun K3 hK3 => ?_
  refine W.regionT [(0, true)] (by kernel_rfl) ?_
  refine Plan.assign_bool rfl rfl ?_
  refine Plan.nil ?_
  refine hK3 _ _ ?_; clear hK3
  refine W.seq_k fun K4 hK4 => ?_
  refine W.regionT [(0, true), (1, true), (2, true), (3, true), (4, true), (5, true)] (by kernel_rfl) ?_
  refine Plan.move_slice rfl rfl ?_
  refine Plan.toStrV HST ha1 FLaw05.slu24 FLaw05.u5 FLaw05.str9 rfl rfl fun r5 hr5 => ?_
  refine Plan.move_slice rfl rfl ?_
  refine Plan.toStrV HST hb2 FLaw05.slu24 FLaw05.u5 FLaw05.str9 rfl rfl fun r6 hr6 => ?_
  refine Plan.eqStrV (v := decide (a1 = b2)) rfl rfl rfl rfl ?_
  refine Plan.assign_bool rfl rfl ?_
  refine Plan.nil ?_
  refine hK4 _ _ ?_; clear hK4
  refine W.ret (finR_ret ?_)
  subst r
  refine RetOk.mk (.tmp_bool rfl .nil) ?_
  exact ⟨rfl, HST⟩


set_option maxRecDepth 8000 in
set_option maxHeartbeats 1000000 in
theorem lethelaw05_three_ok {B : Nat} {w0 w : World} {L : List Rg} {iG0 : Nat} (hG0 : L[iG0]? = some ⟨some 0, 0, 8, fun q => VU .u32 (H256 q), false⟩) {iG1 : Nat} (hG1 : L[iG1]? = some ⟨some 1, 0, 64, fun q => VU .u32 (K256 q), false⟩) {key1 : Nat → BitVec 8} {r : ((List Byte) × (List Byte) × (Nat → BitVec 8) × Bool) ⊕ ((List Byte) × (List Byte) × (Nat → BitVec 8) × Bool)} (hR : lethelaw05_three key1 r) (HST : St B w0 (L) w) :
    Calls Tryd.prog 13 #[AG [(32, fun q => VU .u8 (key1 q))]] w fun e w' => match r with | .inl z => ∃ ay0 : Option Addr, ∃ py0 : Option Nat, ∃ ny0 : Nat, ∃ cy0 : Nat, ∃ Fy0 : Nat → Byte, ∃ ay1 : Option Addr, ∃ py1 : Option Nat, ∃ ny1 : Nat, ∃ cy1 : Nat, ∃ Fy1 : Nat → Byte, e = .returned (.tuple #[.slice ay0 ny0 cy0, .slice ay1 ny1 cy1, AG [(16, fun q => VU .u8 (z.2.2.1 q))], .bool z.2.2.2]) ∧ St B w0 (⟨py0, 0, cy0, fun q => VU .u8 (Fy0 q), true⟩ :: ⟨py1, 0, cy1, fun q => VU .u8 (Fy1 q), true⟩ :: L) w' ∧ Ow ay0 py0 ny0 cy0 Fy0 z.1 ∧ Ow ay1 py1 ny1 cy1 Fy1 z.2.1 | .inr z => ∃ ry0 : Rg, ∃ ay0 : Option Addr, ∃ ny0 : Nat, ∃ cy0 : Nat, ∃ ay1 : Option Addr, ∃ ny1 : Nat, ∃ cy1 : Nat, e = .returned (.tuple #[.slice ay0 ny0 cy0, .slice ay1 ny1 cy1, AG [(16, fun q => VU .u8 (z.2.2.1 q))], .bool z.2.2.2]) ∧ St B w0 (ry0 :: L) w' ∧ Bx (ry0 :: L) 0 ay0 ny0 cy0 z.1 ∧ Bx (ry0 :: L) 0 ay1 ny1 cy1 z.2.1 := by
  refine W.enter 32 Tryd.func13 rfl rfl rfl ?_
  unfold lethelaw05_three at hR
  refine W.seq_k fun K2 hK2 => ?_
  refine W.regionT [(0, false), (1, true), (2, true), (3, false), (4, true)] (by kernel_rfl) ?_
  refine Plan.boxA HST rfl rfl PIn.nil fun b3 w3 hb3 h3 => ?_
  simp only [rngs, Nat.zero_add, Nat.reduceAdd, List.cons_append, List.nil_append] at h3
  refine Plan.assign_slice rfl rfl ?_
  refine Plan.assign_slice rfl rfl ?_
  refine Plan.alloc h3 rfl FLaw05.z31 PIn.nil fun b4 w4 hb4 h4 => ?_
  simp only [rngs, Nat.zero_add, Nat.reduceAdd, List.cons_append, List.nil_append] at h4
  refine Plan.assign_bool rfl rfl ?_
  refine Plan.nil ?_
  refine hK2 _ _ ?_; clear hK2
  refine W.seq_k fun K5 hK5 => ?_
  obtain ⟨b52, e_53, hX54, hR054⟩ := hR
  refine W.cutN (fun e w => ∃ y_b52 : List Byte, ∃ y_e_53 : Nat, (b52 = y_b52 ∧ e_53 = y_e_53) ∧ ∃ ab52 : Option Addr, ∃ pb52 : Option Nat, ∃ cb52 : Nat, ∃ Fb52 : Nat → Byte, EnvHas e [(4, .pointer (some ⟨b4, 0, none⟩)), (6, .slice ab52 y_b52.length cb52), (7, VN y_e_53)] ∧ St B w0 (⟨pb52, 0, cb52, fun q => VU .u8 (Fb52 q), true⟩ :: ⟨some b4, 0, 16, fun q => VU .u8 ((fun _ => 0#8) q), true⟩ :: L) w ∧ Ow ab52 pb52 y_b52.length cb52 Fb52 y_b52) ?_ ?_
  ·
    replace hR := hX54
    refine W.regionF FLaw05.mixed (.fork [(1, true)] (.line [(0, false), (2, false), (3, false), (4, false), (5, true), (6, true), (7, true), (8, true), (9, true)]) (.fork [(2, false)] (.line [(0, false), (3, false), (4, false), (5, true), (6, true), (7, true), (8, true), (9, true)]) (.line [(3, false), (0, false), (4, false), (5, true), (6, true), (7, true), (8, true), (9, true)]))) (by kernel_rfl) (PlanT.toFork ?_)
    have h55 := h4.drew
    refine Plan.slArrO (lo := 0) (hi := 32) (m := 32) (c := 32) (o' := 0) FLaw05.arr23 rfl rfl rfl rfl (by omega) (by omega) (by omega) (by omega) ?_
    obtain ⟨x_59, x_60, hr58, hR⟩ := hR
    refine Plan.forked ?_ ?_
    ·
      refine PlanT.toLine ?_
      refine Plan.makeO (len := 32) (c := 32) h55 FLaw05.el24 rfl rfl rfl (by omega) (by omega) (fun _ => EffO.keep PIn.nil) fun b67 w67 hb67 ho67 h67 => ?_
      refine Plan.constBytesO PIn.nil h67 (f := fun q => VU .u8 (lit ([108#8, 101#8, 116#8, 104#8, 101#8, 32#8, 115#8, 101#8, 97#8, 108#8] : List Byte) q)) FLaw05.slu24 FLaw05.u5 FLaw05.sz5 FLaw05.zv5 (by decide) (by decide) rfl (fun _ => rfl) (fun _ => rfl) rfl (by kernel_rfl) fun b68 w68 hb68 h68 => ?_
      refine Plan.call (vs := [.slice (some ⟨b67, 0, none⟩) ((List.replicate 32 0#8).length) 32, .slice (some ⟨b3, 0, none⟩) 32 32, .slice (some ⟨b68, 0, none⟩) 10 10, VN 80]) rfl FLaw05.call25 rfl (kdf_Derive_ok (iG0 := iG0 + 4) hG0 (iG1 := iG1 + 4) hG1 (by exact (ho67.bx 1 rfl)) (by exact (Bx.arr0 (n := 32) (cc := 32) 3 rfl (by omega) (by omega))) (by exact (Bx.arr0 (n := 10) (cc := 10) 0 rfl (by omega) (by omega))) hr58 h68) ?_
      rintro _ w77 ⟨ay0_72, py0_73, ny0_74, cy0_75, Fy0_76, rfl, h77, hf77_0⟩
      obtain rfl := hf77_0.hl
      refine ⟨_, rfl, .inl ⟨PIn.keep PIn.nil h77, ?_⟩⟩
      refine Plan.move_tuple rfl rfl ?_
      refine Plan.extract_slice rfl rfl rfl ?_
      refine Plan.extract_int rfl rfl rfl ?_
      refine Plan.assign_slice rfl rfl ?_
      refine Plan.assign_int rfl rfl ?_
      refine Plan.nil ?_
      have h78 := St.pickT (C := [_, _, _, _, _]) h77 [0, 3] (by decide)
      simp only [pick, List.filterMap_cons, List.filterMap_nil, List.getElem?_cons_zero, List.getElem?_cons_succ, List.cons_append, List.nil_append] at h78
      exact ⟨x_59, x_60, hR, ay0_72, py0_73, cy0_75, Fy0_76, (EnvHas.cons rfl (EnvHas.cons rfl (EnvHas.cons rfl EnvHas.nil))), h78, hf77_0⟩
    ·
      refine PlanT.toFork ?_
      refine Plan.constBuild PIn.nil h55 (f := fun q => VU .u8 (lit ([108#8, 101#8, 116#8, 104#8, 101#8, 32#8, 115#8, 101#8, 97#8, 108#8] : List Byte) q)) FLaw05.slu24 FLaw05.sz5 FLaw05.zv5 (by decide) (by decide) rfl rfl (by kernel_rfl) fun b79 w79 hb79 hk79 h79 => ?_
      refine Plan.forked ?_ ?_
      ·
        refine PlanT.toLine ?_
        refine Plan.makeK (m := 32) (c := 32) PIn.nil h79 FLaw05.el24 rfl rfl rfl (by omega) (by omega) fun b80 w80 hb80 hw80 ho80 h80 => ?_
        have hk80_b79 := hw80 _ _ hk79
        refine Plan.constConv PIn.nil h80 hb79 hk80_b79 FLaw05.slu24 FLaw05.u5 rfl rfl fun w81 h81 => ?_
        refine Plan.call (vs := [.slice (some ⟨b80, 0, none⟩) ((List.replicate 32 0#8).length) 32, .slice (some ⟨b3, 0, none⟩) 32 32, .slice (some ⟨b79, 0, none⟩) 10 10, VN 80]) rfl FLaw05.call25 rfl (kdf_Derive_ok (iG0 := iG0 + 4) hG0 (iG1 := iG1 + 4) hG1 (by exact (ho80.bx 0 rfl)) (by exact (Bx.arr0 (n := 32) (cc := 32) 3 rfl (by omega) (by omega))) (by exact (Bx.arr0 (n := 10) (cc := 10) 1 rfl (by omega) (by omega))) hr58 h81) ?_
        rintro _ w90 ⟨ay0_85, py0_86, ny0_87, cy0_88, Fy0_89, rfl, h90, hf90_0⟩
        obtain rfl := hf90_0.hl
        refine ⟨_, rfl, .inl ⟨PIn.keep PIn.nil h90, ?_⟩⟩
        refine Plan.move_tuple rfl rfl ?_
        refine Plan.extract_slice rfl rfl rfl ?_
        refine Plan.extract_int rfl rfl rfl ?_
        refine Plan.assign_slice rfl rfl ?_
        refine Plan.assign_int rfl rfl ?_
        refine Plan.nil ?_
        have h91 := St.pickT (C := [_, _, _, _, _]) h90 [0, 3] (by decide)
        simp only [pick, List.filterMap_cons, List.filterMap_nil, List.getElem?_cons_zero, List.getElem?_cons_succ, List.cons_append, List.nil_append] at h91
        exact ⟨x_59, x_60, hR, ay0_85, py0_86, cy0_88, Fy0_89, (EnvHas.cons rfl (EnvHas.cons rfl (EnvHas.cons rfl EnvHas.nil))), h91, hf90_0⟩
      ·
        refine PlanT.toLine ?_
        refine Plan.constConv PIn.nil h79 hb79 hk79 FLaw05.slu24 FLaw05.u5 rfl rfl fun w92 h92 => ?_
        refine Plan.makeO (len := 32) (c := 32) h92 FLaw05.el24 rfl rfl rfl (by omega) (by omega) (fun _ => EffO.keep PIn.nil) fun b93 w93 hb93 ho93 h93 => ?_
        refine Plan.call (vs := [.slice (some ⟨b93, 0, none⟩) ((List.replicate 32 0#8).length) 32, .slice (some ⟨b3, 0, none⟩) 32 32, .slice (some ⟨b79, 0, none⟩) 10 10, VN 80]) rfl FLaw05.call25 rfl (kdf_Derive_ok (iG0 := iG0 + 4) hG0 (iG1 := iG1 + 4) hG1 (by exact (ho93.bx 0 rfl)) (by exact (Bx.arr0 (n := 32) (cc := 32) 3 rfl (by omega) (by omega))) (by exact (Bx.arr0 (n := 10) (cc := 10) 1 rfl (by omega) (by omega))) hr58 h93) ?_
        rintro _ w102 ⟨ay0_97, py0_98, ny0_99, cy0_100, Fy0_101, rfl, h102, hf102_0⟩
        obtain rfl := hf102_0.hl
        refine ⟨_, rfl, .inl ⟨PIn.keep PIn.nil h102, ?_⟩⟩
        refine Plan.move_tuple rfl rfl ?_
        refine Plan.extract_slice rfl rfl rfl ?_
        refine Plan.extract_int rfl rfl rfl ?_
        refine Plan.assign_slice rfl rfl ?_
        refine Plan.assign_int rfl rfl ?_
        refine Plan.nil ?_
        have h103 := St.pickT (C := [_, _, _, _, _]) h102 [0, 3] (by decide)
        simp only [pick, List.filterMap_cons, List.filterMap_nil, List.getElem?_cons_zero, List.getElem?_cons_succ, List.cons_append, List.nil_append] at h103
        exact ⟨x_59, x_60, hR, ay0_97, py0_98, cy0_100, Fy0_101, (EnvHas.cons rfl (EnvHas.cons rfl (EnvHas.cons rfl EnvHas.nil))), h103, hf102_0⟩
  ·
    rintro ev104 wl104 ⟨y_b52, y_e_53, ⟨hy104_0, hy104_1⟩, ab52, pb52, cb52, Fb52, he104, h104, hb52⟩
    subst hy104_0
    subst hy104_1
    obtain ⟨ev104, rfl⟩ := he104.open
    replace hR := hR054
    refine hK5 _ _ ?_; clear hK5
    refine W.seq_k fun K105 hK105 => ?_
    refine W.seq_k fun K113 hK113 => ?_
    refine W.regionT [(0, true), (1, true), (2, true), (3, true), (4, true), (5, true), (6, true)] (by kernel_rfl) ?_
    refine Plan.move_int rfl rfl ?_
    by_cases hc114 : e_53 ≠ 0
    ·
      replace hR := ifT hR hc114
      refine Plan.cmpV (a := (((e_53 : Nat) : Int) : Int)) (b := (0 : Int)) (p := e_53 ≠ 0) (v := true) rfl rfl rfl rfl icmp_neN (decide_eq_true hc114) ?_
      refine Plan.move_bool rfl rfl ?_
      refine Plan.passed rfl ?_
      refine Plan.passed rfl ?_
      refine Plan.passed rfl ?_
      refine Plan.pickTb rfl rfl rfl ?_
      refine Plan.nil ?_
      refine hK113 _ _ ?_; clear hK113
      refine W.condT rfl ?_
      refine W.seq_k fun K115 hK115 => ?_
      refine W.regionT [(0, true), (1, true), (2, true), (3, false), (4, true)] (by kernel_rfl) ?_
      refine Plan.buildZ FLaw05.row31 FLaw05.z31 rfl ?_
      refine Plan.assign_slice rfl rfl ?_
      refine Plan.assign_slice rfl rfl ?_
      refine Plan.storeA (f' := fun q => VU .u8 ((fun _ => 0#8) q)) h104 1 rfl rfl rfl rfl (fun _ _ => rfl) FLaw05.sz31 rfl fun w116 h116 => ?_
      simp only [List.cons_append, List.nil_append, List.set_cons_zero, List.set_cons_succ] at h116
      refine Plan.assign_bool rfl rfl ?_
      refine Plan.nil ?_
      refine hK115 _ _ ?_; clear hK115
      refine W.ret (thenR_ret (finR_ret ?_))
      have h117 := h116.nilR
      have h118 := h117.nilR
      have h119 := St.pickT (C := [_, _, _, _]) h118 [1, 0] (by decide)
      simp only [pick, List.filterMap_cons, List.filterMap_nil, List.getElem?_cons_zero, List.getElem?_cons_succ, List.cons_append, List.nil_append] at h119
      subst r
      refine RetOk.mk (.tmp_slice rfl (.tmp_slice rfl (.agg h116 rfl (.cons 1 rfl .nil) FLaw05.agg31 (.tmp_bool rfl .nil)))) ?_
      exact ⟨none, none, 0, 0, (fun _ => 0#8), none, none, 0, 0, (fun _ => 0#8), rfl, h119, Ow.nil, Ow.nil⟩
    ·
      replace hR := ifF hR hc114
      refine Plan.cmpV (a := (((e_53 : Nat) : Int) : Int)) (b := (0 : Int)) (p := e_53 ≠ 0) (v := false) rfl rfl rfl rfl icmp_neN (decide_eq_false hc114) ?_
      refine Plan.move_bool rfl rfl ?_
      refine Plan.move_slice rfl rfl ?_
      refine Plan.len FLaw05.isl24 rfl rfl ?_
      refine Plan.cmpP (a := (((b52.length : Nat) : Int) : Int)) (b := (80 : Int)) (p := b52.length ≠ 80) rfl rfl rfl rfl icmp_neN ?_
      refine Plan.pickFb rfl rfl rfl ?_
      refine Plan.nil ?_
      refine hK113 _ _ ?_; clear hK113
      by_cases hc120 : b52.length ≠ 80
      ·
        replace hR := ifT hR hc120
        refine W.condT (congrArg Value.bool (decide_eq_true hc120)) ?_
        refine W.seq_k fun K121 hK121 => ?_
        refine W.regionT [(0, true), (1, true), (2, true), (3, false), (4, true)] (by kernel_rfl) ?_
        refine Plan.buildZ FLaw05.row31 FLaw05.z31 rfl ?_
        refine Plan.assign_slice rfl rfl ?_
        refine Plan.assign_slice rfl rfl ?_
        refine Plan.storeA (f' := fun q => VU .u8 ((fun _ => 0#8) q)) h104 1 rfl rfl rfl rfl (fun _ _ => rfl) FLaw05.sz31 rfl fun w122 h122 => ?_
        simp only [List.cons_append, List.nil_append, List.set_cons_zero, List.set_cons_succ] at h122
        refine Plan.assign_bool rfl rfl ?_
        refine Plan.nil ?_
        refine hK121 _ _ ?_; clear hK121
        refine W.ret (thenR_ret (finR_ret ?_))
        have h123 := h122.nilR
        have h124 := h123.nilR
        have h125 := St.pickT (C := [_, _, _, _]) h124 [1, 0] (by decide)
        simp only [pick, List.filterMap_cons, List.filterMap_nil, List.getElem?_cons_zero, List.getElem?_cons_succ, List.cons_append, List.nil_append] at h125
        subst r
        refine RetOk.mk (.tmp_slice rfl (.tmp_slice rfl (.agg h122 rfl (.cons 1 rfl .nil) FLaw05.agg31 (.tmp_bool rfl .nil)))) ?_
        exact ⟨none, none, 0, 0, (fun _ => 0#8), none, none, 0, 0, (fun _ => 0#8), rfl, h125, Ow.nil, Ow.nil⟩
      ·
        replace hR := ifF hR hc120
        refine W.condF (congrArg Value.bool (decide_eq_false hc120)) ?_
        refine W.skip ?_
        refine hK105 _ _ ?_; clear hK105
        refine W.seq_k fun K126 hK126 => ?_
        refine W.regionD FLaw05.mixed [(0, true), (1, true), (2, true), (3, true), (4, true), (5, true), (6, true), (7, true), (8, true), (9, true), (10, false), (11, true)] (by kernel_rfl) ?_
        have h127 := h104.drew
        refine Plan.move_slice rfl rfl ?_
        obtain ⟨hc128, hR⟩ := hR
        have hm129 := hb52.hc
        refine Plan.slSl (lo := 0) (hi := 32) FLaw05.sl24 rfl rfl rfl ⟨_, rfl⟩ (by omega) ?_
        refine Plan.move_slice rfl rfl ?_
        obtain ⟨hc130, hR⟩ := hR
        have hm131 := hb52.hc
        refine Plan.slSl (lo := 32) (hi := 64) FLaw05.sl24 rfl rfl ⟨_, rfl⟩ ⟨_, rfl⟩ (by omega) ?_
        refine Plan.move_slice rfl rfl ?_
        obtain ⟨hc132, hR⟩ := hR
        have hm133 := hb52.hc
        refine Plan.slSl (lo := 64) (hi := 80) FLaw05.sl24 rfl rfl ⟨_, rfl⟩ ⟨_, rfl⟩ (by omega) ?_
        obtain ⟨hc134, hR⟩ := hR
        refine Plan.sl2arrVS h127 ((hb52.bx 0 rfl).seg (lo := 64) (hi := 80) hc132) FLaw05.arru31 rfl rfl (by omega) ?_
        refine Plan.loadAV h127 ((hb52.bx 0 rfl).seg (lo := 64) (hi := 80) hc132) rfl rfl (by omega) FLaw05.agg31 fun r135 hr135 => ?_
        refine Plan.assign_slice rfl rfl ?_
        refine Plan.assign_slice rfl rfl ?_
        refine Plan.storeA (f' := fun q => VU .u8 ((lit (seg b52 64 80)) q)) h127 1 rfl rfl rfl rfl (fun _ _ => rfl) FLaw05.sz31 rfl fun w136 h136 => ?_
        simp only [List.cons_append, List.nil_append, List.set_cons_zero, List.set_cons_succ] at h136
        refine Plan.assign_bool rfl rfl ?_
        refine Plan.nil ?_
        refine hK126 _ _ ?_; clear hK126
        refine W.ret (finR_ret ?_)
        have h137 := St.pickT (C := [_, _]) h136 [0] (by decide)
        simp only [pick, List.filterMap_cons, List.filterMap_nil, List.getElem?_cons_zero, List.getElem?_cons_succ, List.cons_append, List.nil_append] at h137
        subst r
        refine RetOk.mk (.tmp_slice rfl (.tmp_slice rfl (.agg h136 rfl (.cons 1 rfl .nil) FLaw05.agg31 (.tmp_bool rfl .nil)))) ?_
        exact ⟨⟨pb52, 0, cb52, fun q => VU .u8 (Fb52 q), true⟩, (if cb52 = 0 then ab52 else (ab52).map (·.add (0 * 1))), (32 - 0), (cb52 - 0), (if cb52 = 32 then ab52 else (ab52).map (·.add (32 * 1))), (64 - 32), (cb52 - 32), rfl, h137, ((hb52.bx 0 rfl).seg (lo := 0) (hi := 32) hc128), ((hb52.bx 0 rfl).seg (lo := 32) (hi := 64) hc130)⟩


set_option maxRecDepth 8000 in
set_option maxHeartbeats 1000000 in
theorem lethelaw05_tag_ok {B : Nat} {w0 w : World} {L : List Rg} {iG0 : Nat} (hG0 : L[iG0]? = some ⟨some 0, 0, 8, fun q => VU .u32 (H256 q), false⟩) {iG1 : Nat} (hG1 : L[iG1]? = some ⟨some 1, 0, 64, fun q => VU .u32 (K256 q), false⟩) {key1 : List Byte} {akey1 : Option Addr} {nkey1 ckey1 ikey1 : Nat} (hkey1 : Bx L ikey1 akey1 nkey1 ckey1 key1) {data2 : List Byte} {adata2 : Option Addr} {ndata2 cdata2 idata2 : Nat} (hdata2 : Bx L idata2 adata2 ndata2 cdata2 data2) {c3 : List Byte} {ac3 : Option Addr} {nc3 cc3 ic3 : Nat} (hc3 : Bx L ic3 ac3 nc3 cc3 c3) {r : (List Byte)} (hR : lethelaw05_tag key1 data2 c3 r) (HST : St B w0 (L) w) :
    Calls Tryd.prog 15 #[.slice akey1 nkey1 ckey1, .slice adata2 ndata2 cdata2, .slice ac3 nc3 cc3] w fun e w' => ∃ ay0 : Option Addr, ∃ py0 : Option Nat, ∃ ny0 : Nat, ∃ cy0 : Nat, ∃ Fy0 : Nat → Byte, e = .returned (.slice ay0 ny0 cy0) ∧ St B w0 (⟨py0, 0, cy0, fun q => VU .u8 (Fy0 q), true⟩ :: L) w' ∧ Ow ay0 py0 ny0 cy0 Fy0 r := by
  refine W.enter 27 Tryd.func15 rfl rfl rfl ?_
  unfold lethelaw05_tag at hR
  have ekey1 := hkey1.hl; subst ekey1
  have edata2 := hdata2.hl; subst edata2
  have ec3 := hc3.hl; subst ec3
  refine W.seq_k fun K4 hK4 => ?_
  refine W.regionT [(0, true)] (by kernel_rfl) ?_
  refine Plan.assign_slice rfl rfl ?_
  refine Plan.nil ?_
  refine hK4 _ _ ?_; clear hK4
  refine W.seq_k fun K5 hK5 => ?_
  refine W.regionT [(0, true), (1, true), (2, true)] (by kernel_rfl) ?_
  refine Plan.move_slice rfl rfl ?_
  refine Plan.len FLaw05.isl24 rfl rfl ?_
  refine Plan.assign_int rfl rfl ?_
  refine Plan.nil ?_
  refine hK5 _ _ ?_; clear hK5
  refine W.seq_k fun K6 hK6 => ?_
  refine W.regionT [(0, true), (1, true), (2, true), (3, true), (4, true), (5, true), (6, true), (7, true), (8, true), (9, true), (10, true), (11, false), (12, false), (13, false), (14, false), (15, false)] (by kernel_rfl) ?_
  refine Plan.move_slice rfl rfl ?_
  refine Plan.move_slice rfl rfl ?_
  refine Plan.move_slice rfl rfl ?_
  refine Plan.move_int rfl rfl ?_
  obtain ⟨hc7, hR⟩ := hR
  refine Plan.quoN (a := data2.length) (b := 65536) rfl rfl rfl (by omega) ?_
  refine Plan.convNU .u8 (a := (data2.length / 65536)) FLaw05.u5 FLaw05.some3 rfl rfl ?_
  refine Plan.move_int rfl rfl ?_
  obtain ⟨hc8, hR⟩ := hR
  refine Plan.quoN (a := data2.length) (b := 256) rfl rfl rfl (by omega) ?_
  refine Plan.convNU .u8 (a := (data2.length / 256)) FLaw05.u5 FLaw05.some3 rfl rfl ?_
  refine Plan.move_int rfl rfl ?_
  refine Plan.convNU .u8 (a := data2.length) FLaw05.u5 FLaw05.some3 rfl rfl ?_
  refine Plan.buildSlice HST (ps := [(8, fun q => VU .u8 (lit ([0#8, 0#8, 0#8, 0#8, 0#8, (BitVec.ofNat 8 (data2.length / 65536)), (BitVec.ofNat 8 (data2.length / 256)), (BitVec.ofNat 8 data2.length)] : List Byte) q))]) FLaw05.slu24 FLaw05.sz5 FLaw05.zv5 (by decide) (by decide) rfl rfl rfl (EffO.keep PIn.nil) fun b9 w9 hb9 h9 => ?_
  simp only [rngs, List.cons_append, List.nil_append] at h9
  have ho9 : Ow (some ⟨b9, 0, none⟩) (some b9) ([0#8, 0#8, 0#8, 0#8, 0#8, (BitVec.ofNat 8 (data2.length / 65536)), (BitVec.ofNat 8 (data2.length / 256)), (BitVec.ofNat 8 data2.length)] : List Byte).length 8 (lit ([0#8, 0#8, 0#8, 0#8, 0#8, (BitVec.ofNat 8 (data2.length / 65536)), (BitVec.ofNat 8 (data2.length / 256)), (BitVec.ofNat 8 data2.length)] : List Byte)) ([0#8, 0#8, 0#8, 0#8, 0#8, (BitVec.ofNat 8 (data2.length / 65536)), (BitVec.ofNat 8 (data2.length / 256)), (BitVec.ofNat 8 data2.length)] : List Byte) := ⟨.inr ⟨b9, rfl, rfl⟩, Nat.le_refl _, rfl, fun q _ => rfl⟩
  refine Plan.buildSlice h9 (ps := [(3, fun i => .slice ((fun i => ([adata2, ac3, some ⟨b9, 0, none⟩] : List (Option Addr)).getD i none) i) ((fun i => ([data2.length, c3.length, ([0#8, 0#8, 0#8, 0#8, 0#8, (BitVec.ofNat 8 (data2.length / 65536)), (BitVec.ofNat 8 (data2.length / 256)), (BitVec.ofNat 8 data2.length)] : List Byte).length] : List Nat).getD i 0) i) ((fun i => ([cdata2, cc3, 8] : List Nat).getD i 0) i))]) FLaw05.slu40 FLaw05.sz24 FLaw05.zv24 (by decide) (by decide) rfl rfl rfl (EffO.keep PIn.nil) fun b11 w11 hb11 h11 => ?_
  simp only [rngs, List.cons_append, List.nil_append] at h11
  obtain ⟨x_13, hr12, hR⟩ := hR
  refine Plan.call (vs := [.slice akey1 key1.length ckey1, .slice (some ⟨b11, 0, none⟩) 3 3]) rfl FLaw05.call26 rfl (kdf_Mac_ok (iG0 := iG0 + 2) hG0 (iG1 := iG1 + 2) hG1 (hkey1.app [_, _]) (by exact (Bss.of 0 rfl rfl (fun i hi => match i, hi with | 0, _ => ⟨_, (hdata2.app [_, _])⟩ | 1, _ => ⟨_, (hc3.app [_, _])⟩ | 2, _ => ⟨_, (ho9.bx 1 rfl)⟩ | k + 3, hk => absurd hk (by omega)))) hr12 h11) ?_
  rintro _ w14 ⟨rfl, h14⟩
  refine ⟨_, rfl, .inl ⟨PIn.keep PIn.nil h14, ?_⟩⟩
  refine Plan.alloc h14 rfl FLaw05.z58 PIn.nil fun b15 w15 hb15 h15 => ?_
  simp only [rngs, Nat.zero_add, Nat.reduceAdd, List.cons_append, List.nil_append] at h15
  refine Plan.storeA (f' := fun q => VU .u8 (x_13 q)) h15 0 rfl rfl rfl rfl (fun _ _ => rfl) FLaw05.sz58 rfl fun w16 h16 => ?_
  simp only [List.cons_append, List.nil_append, List.set_cons_zero, List.set_cons_succ] at h16
  refine Plan.nil ?_
  refine hK6 _ _ ?_; clear hK6
  refine W.seq_k fun K17 hK17 => ?_
  refine W.regionT [(0, true), (1, false), (2, true)] (by kernel_rfl) ?_
  refine Plan.slArrO (lo := 0) (hi := 32) (m := 32) (c := 32) (o' := 0) FLaw05.arr58 rfl rfl rfl rfl (by omega) (by omega) (by omega) (by omega) ?_
  have h18 := h16.nilR
  refine Plan.appendO (X := ([] : List Byte)) (Y := (dl 32 x_13)) h18 0 Ow.nil FLaw05.el24 FLaw05.sl24 rfl rfl rfl rfl (Bx.arr0 (n := 32) (cc := 32) 1 rfl (by omega) (by omega)) (by omega) (fun _ => EffO.keep PIn.nil) fun a19 pb19 cap19 F19 w19 ho19 h19 => ?_
  simp only [List.cons_append, List.nil_append, List.set_cons_zero, List.set_cons_succ] at h19
  refine Plan.assign_slice rfl rfl ?_
  refine Plan.nil ?_
  refine hK17 _ _ ?_; clear hK17
  refine W.ret (finR_ret ?_)
  have h20 := St.pickT (C := [_, _, _, _]) h19 [0] (by decide)
  simp only [pick, List.filterMap_cons, List.filterMap_nil, List.getElem?_cons_zero, List.getElem?_cons_succ, List.cons_append, List.nil_append] at h20
  subst r
  refine RetOk.mk (.tmp_slice rfl .nil) ?_
  exact ⟨a19, pb19, (([] : List Byte) ++ (dl 32 x_13)).length, cap19, F19, rfl, h20, ho19⟩


set_option maxRecDepth 8000 in
set_option maxHeartbeats 1000000 in
theorem lethelaw05_rest_ok {B : Nat} {w0 w : World} {L : List Rg} {n_1 : Int} {m2 : Int} {r : Int} (hR : lethelaw05_rest n_1 m2 r) (HST : St B w0 (L) w) :
    Calls Tryd.prog 11 #[.int .i64 n_1, .int .i64 m2] w fun e w' => e = .returned (.int .i64 r) ∧ St B w0 (L) w' := by
  refine W.enter 12 Tryd.func11 rfl rfl rfl ?_
  unfold lethelaw05_rest at hR
  refine W.seq_k fun K3 hK3 => ?_
  refine W.regionT [(0, true)] (by kernel_rfl) ?_
  refine Plan.assign_int rfl rfl ?_
  refine Plan.nil ?_
  refine hK3 _ _ ?_; clear hK3
  refine W.seq_k fun K4 hK4 => ?_
  refine W.regionT [(0, true), (1, true), (2, true), (3, true), (4, true), (5, true), (6, true), (7, true)] (by kernel_rfl) ?_
  refine Plan.move_int rfl rfl ?_
  refine Plan.move_int rfl rfl ?_
  obtain ⟨hc5, hR⟩ := hR
  refine Plan.remI (a := n_1) (b := m2) rfl rfl rfl hc5 ?_
  refine Plan.move_int rfl rfl ?_
  obtain ⟨hc6, hR⟩ := hR
  refine Plan.addI (a := (n_1.tmod m2)) (b := m2) rfl rfl rfl (by omega) ?_
  refine Plan.move_int rfl rfl ?_
  obtain ⟨hc7, hR⟩ := hR
  refine Plan.remI (a := ((n_1.tmod m2) + m2)) (b := m2) rfl rfl rfl hc7 ?_
  refine Plan.assign_int rfl rfl ?_
  refine Plan.nil ?_
  refine hK4 _ _ ?_; clear hK4
  refine W.ret (finR_ret ?_)
  subst r
  refine RetOk.mk (.tmp_int rfl .nil) ?_
  exact ⟨rfl, HST⟩

end Go.Proofs.YthjkmhdgenmnoaaDoor
